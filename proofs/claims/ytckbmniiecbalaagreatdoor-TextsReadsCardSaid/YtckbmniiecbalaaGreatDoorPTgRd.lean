-- written by a program of this session out of the kit's print (its words and its form)
import Derived.Test.YtckbmniiecbalaaGreatDoorPTgC
import Derived.Test.YtckbmniiecbalaaGreatDoorPTgRa
import Derived.Test.YtckbmniiecbalaaGreatDoorPTgRb
import Derived.Test.YtckbmniiecbalaaGreatDoorPTgRc
import Derived.Test.YtckbmniiecbalaaGreatDoorPTsq
import Derived.Test.YtckbmniiecbalaaGreatDoorPTx0
namespace Go.Proofs.YtckbmniiecbalaaGreatDoor.PT
open Go.RowKit Go.Proofs.YtckbmniiecbalaaGreatDoorW.PrintWords Go.Proofs.YtckbmniiecbalaaGreatDoorW.PrintLast Go.Proofs.YtckbmniiecbalaaGreatDoorW.PrintMore
attribute [local go_sem] max2_int min2_int max_two min_two max_three min_three max_four min_four   -- for this text's walks alone
set_option linter.unusedVariables false
set_option linter.unusedSimpArgs false

/-! ### environref02_Rounded: function 102 -/
mutual
def environref02_Rounded.j0 : Nat → Int → Int → Bool → Bool → List Int → Int → Bool → Option (Int × Int × Int)
 | 0, _, _, _, _, _, _, _ => none
 | k + 1, x1, x8, x29, x612000, x612001, x612002, x612003 => if x29 = true then (some (0, 0, 0)) else (if (wrap64 ((wrap64 (x612002 + (x612001.length : Int))) - x8)) < (-400) then (environref02_Rounded.j1 k x1 x8 (-400) x612000 x612001 x612002 x612003) else (environref02_Rounded.j1 k x1 x8 (wrap64 ((wrap64 (x612002 + (x612001.length : Int))) - x8)) x612000 x612001 x612002 x612003))
def environref02_Rounded.j1 : Nat → Int → Int → Int → Bool → List Int → Int → Bool → Option (Int × Int × Int)
 | 0, _, _, _, _, _, _, _ => none
 | k + 1, x1, x8, x10, x612000, x612001, x612002, x612003 => if x10 > x612002 then ((environref02_cut.f k x612000 x612001 x612002 x612003 (wrap64 (x10 - x612002))).bind fun bt615 => (environref02_Rounded.j2 k x1 x8 x10 bt615.1 bt615.2.1 bt615.2.2 x612000 x612001 x612002 x612003)) else (environref02_Rounded.j2 k x1 x8 x612002 x612001 0 x612003 x612000 x612001 x612002 x612003)
def environref02_Rounded.j2 : Nat → Int → Int → Int → List Int → Int → Bool → Bool → List Int → Int → Bool → Option (Int × Int × Int)
 | 0, _, _, _, _, _, _, _, _, _, _ => none
 | k + 1, x1, x8, x10, x11, x12, x13, x612000, x612001, x612002, x612003 => (environref02_away.f x1 x612000 x11 x12 x13).bind fun t620 => (if t620 = true then ((environref02_Of.f k 1).bind fun t621 => ((environref02_plus.f k x11 t621).bind fun t624 => (environref02_Rounded.j3 k x1 x8 x10 t624 x612000 x612001 x612002 x612003))) else (environref02_Rounded.j3 k x1 x8 x10 x11 x612000 x612001 x612002 x612003))
def environref02_Rounded.j3 : Nat → Int → Int → Int → List Int → Bool → List Int → Int → Bool → Option (Int × Int × Int)
 | 0, _, _, _, _, _, _, _, _ => none
 | k + 1, x1, x8, x10, x11, x612000, x612001, x612002, x612003 => if (wrap64 ((x11.length : Int) + x10)) ≤ (wrap64 (x8 + 400)) then ((environref02_form.f k x612000 x11 x10).bind fun bt627 => (some (bt627.1, bt627.2, 0))) else (if x1 = 3 then (environref02_Rounded.j4 k x8 true x612000 x612001 x612002 x612003) else (if x1 = 2 then (if x612000 = true then (if x1 = 1 then (environref02_Rounded.j4 k x8 x612000 x612000 x612001 x612002 x612003) else (environref02_Rounded.j4 k x8 false x612000 x612001 x612002 x612003)) else (environref02_Rounded.j4 k x8 true x612000 x612001 x612002 x612003)) else (if x1 = 1 then (environref02_Rounded.j4 k x8 x612000 x612000 x612001 x612002 x612003) else (environref02_Rounded.j4 k x8 false x612000 x612001 x612002 x612003))))
def environref02_Rounded.j4 : Nat → Int → Bool → Bool → List Int → Int → Bool → Option (Int × Int × Int)
 | 0, _, _, _, _, _, _ => none
 | k + 1, x8, x101, x612000, x612001, x612002, x612003 => if x101 = true then (environref02_Rounded.l0 k x8 (([] : List Int)) 0 x612000 x612001 x612002 x612003) else (some (0, 0, 11))
def environref02_Rounded.l0 : Nat → Int → List Int → Int → Bool → List Int → Int → Bool → Option (Int × Int × Int)
 | 0, _, _, _, _, _, _, _ => none
 | k + 1, x8, x14, x15, x612000, x612001, x612002, x612003 => if x15 < x8 then (if x14.length < 17592186044416 then (environref02_Rounded.l0 k x8 (x14 ++ [9]) (wrap64 (x15 + 1)) x612000 x612001 x612002 x612003) else (none)) else ((environref02_form.f k x612000 x14 400).bind fun bt635 => (some (bt635.1, bt635.2, 0)))
end
def environref02_Rounded.f (k : Nat) (a0 : Int) (a1 : Int) (a2_0 : Bool) (l2_1 : List Int) (a2_2 : Int) (a2_3 : Bool) : Option (Int × Int × Int) := (environref02_Digits.f a0).bind fun bt613 => (if (l2_1.length : Int) = 0 then (environref02_Rounded.j0 k a1 bt613.1 (!a2_3) a2_0 l2_1 a2_2 a2_3) else (environref02_Rounded.j0 k a1 bt613.1 false a2_0 l2_1 a2_2 a2_3))
theorem environref02_Rounded.mono_l : ∀ k, (∀ y0 y1 y2 y3 y4 y5 y6, LeO (environref02_Rounded.j0 k y0 y1 y2 y3 y4 y5 y6) (environref02_Rounded.j0 (k + 1) y0 y1 y2 y3 y4 y5 y6)) ∧ (∀ y0 y1 y2 y3 y4 y5 y6, LeO (environref02_Rounded.j1 k y0 y1 y2 y3 y4 y5 y6) (environref02_Rounded.j1 (k + 1) y0 y1 y2 y3 y4 y5 y6)) ∧ (∀ y0 y1 y2 y3 y4 y5 y6 y7 y8 y9, LeO (environref02_Rounded.j2 k y0 y1 y2 y3 y4 y5 y6 y7 y8 y9) (environref02_Rounded.j2 (k + 1) y0 y1 y2 y3 y4 y5 y6 y7 y8 y9)) ∧ (∀ y0 y1 y2 y3 y4 y5 y6 y7, LeO (environref02_Rounded.j3 k y0 y1 y2 y3 y4 y5 y6 y7) (environref02_Rounded.j3 (k + 1) y0 y1 y2 y3 y4 y5 y6 y7)) ∧ (∀ y0 y1 y2 y3 y4 y5, LeO (environref02_Rounded.j4 k y0 y1 y2 y3 y4 y5) (environref02_Rounded.j4 (k + 1) y0 y1 y2 y3 y4 y5)) ∧ (∀ y0 y1 y2 y3 y4 y5 y6, LeO (environref02_Rounded.l0 k y0 y1 y2 y3 y4 y5 y6) (environref02_Rounded.l0 (k + 1) y0 y1 y2 y3 y4 y5 y6))
 | 0 => ⟨fun _ _ _ _ _ _ _ r h => by simp [environref02_Rounded.j0] at h, fun _ _ _ _ _ _ _ r h => by simp [environref02_Rounded.j1] at h, fun _ _ _ _ _ _ _ _ _ _ r h => by simp [environref02_Rounded.j2] at h, fun _ _ _ _ _ _ _ _ r h => by simp [environref02_Rounded.j3] at h, fun _ _ _ _ _ _ r h => by simp [environref02_Rounded.j4] at h, fun _ _ _ _ _ _ _ r h => by simp [environref02_Rounded.l0] at h⟩
 | k + 1 => by
  obtain ⟨ih0, ih1, ih2, ih3, ih4, ih5⟩ := environref02_Rounded.mono_l k
  refine ⟨?_, ?_, ?_, ?_, ?_, ?_⟩ <;> intros <;> (first | unfold environref02_Rounded.j0 | unfold environref02_Rounded.j1 | unfold environref02_Rounded.j2 | unfold environref02_Rounded.j3 | unfold environref02_Rounded.j4 | unfold environref02_Rounded.l0) <;> (repeat' first
   | (with_reducible exact LeO.refl _)
   | exact ih0 _ _ _ _ _ _ _
   | exact ih1 _ _ _ _ _ _ _
   | exact ih2 _ _ _ _ _ _ _ _ _ _
   | exact ih3 _ _ _ _ _ _ _ _
   | exact ih4 _ _ _ _ _ _
   | exact ih5 _ _ _ _ _ _ _
   | exact environref02_Of.mono _ _
   | exact environref02_cut.mono _ _ _ _ _ _
   | exact environref02_form.mono _ _ _ _
   | exact environref02_plus.mono _ _ _
   | exact LeO.none _
   | refine LeO.ite ?_ ?_
   | refine LeO.bind ?_ (fun _ => ?_))
theorem environref02_Rounded.mono : ∀ a0 a1 a2 a3 a4 a5 k, LeO (environref02_Rounded.f k a0 a1 a2 a3 a4 a5) (environref02_Rounded.f (k + 1) a0 a1 a2 a3 a4 a5) := by
 intro a0 a1 a2 a3 a4 a5 k
 obtain ⟨ih0, ih1, ih2, ih3, ih4, ih5⟩ := environref02_Rounded.mono_l k
 unfold environref02_Rounded.f
 repeat' first
   | (with_reducible exact LeO.refl _)
   | exact ih0 _ _ _ _ _ _ _
   | exact ih1 _ _ _ _ _ _ _
   | exact ih2 _ _ _ _ _ _ _ _ _ _
   | exact ih3 _ _ _ _ _ _ _ _
   | exact ih4 _ _ _ _ _ _
   | exact ih5 _ _ _ _ _ _ _
   | exact environref02_Of.mono _ _
   | exact environref02_cut.mono _ _ _ _ _ _
   | exact environref02_form.mono _ _ _ _
   | exact environref02_plus.mono _ _ _
   | exact LeO.none _
   | refine LeO.ite ?_ ?_
   | refine LeO.bind ?_ (fun _ => ?_)
set_option maxHeartbeats 8000000 in
set_option maxRecDepth 100000 in
theorem environref02_Rounded.calls (k : Nat) (a0 : Int) (a1 : Int) (a2_0 : Bool) (P2_1_ : Nat → Prop) (A2_1 : Option Addr) (c2_1 : Nat) (l2_1 : List Int) (a2_2 : Int) (a2_3 : Bool) (r1 : Int) (r2 : Int) (r3 : Int) (w : World) (hs2_1 : Kd.V (Kd.int .i64) 3 w w.heap.size (fun k_ => P2_1_ k_) (.slice A2_1 l2_1.length c2_1) l2_1) (h : environref02_Rounded.f k a0 a1 a2_0 l2_1 a2_2 a2_3 = some (r1, r2, r3)) :
  Calls Tryz.prog 102 #[.int .i64 a0, .int .i64 a1, .agg #[.bool a2_0, .slice A2_1 l2_1.length c2_1, .int .i64 a2_2, .bool a2_3]] w fun e w' => e = .returned (.tuple #[.agg #[.int .i64 r1, .int .i64 r2], .int .i64 r3]) ∧ Below w.heap.size w w' := by
 have hu123 := Tryz.underlying123
 have hu23 := Tryz.underlying23
 have HO2_1 := Aside0.mk (show Kd.V (Kd.int .i64) 3 w w.heap.size (fun k_ => (P2_1_ k_ ∨ w.heap.size ≤ k_)) (.slice A2_1 l2_1.length c2_1) l2_1 from Kd.V_mono hs2_1 (fun k_ hk => .inl hk))
 have HB := Aside0.mk (Below.refl w.heap.size w)
 have H : ((environref02_Digits.f a0).bind fun bt613 => (if (l2_1.length : Int) = 0 then (environref02_Rounded.j0 k a1 bt613.1 (!a2_3) a2_0 l2_1 a2_2 a2_3) else (environref02_Rounded.j0 k a1 bt613.1 false a2_0 l2_1 a2_2 a2_3))) = some (r1, r2, r3) := h
 clear h
 replace H := Option.bind_eq_some_iff.mp H
 obtain ⟨⟨t613, t614⟩, A40, H⟩ := H
 try dsimp only at H
 have A4 := Aside0.mk A40
 clear A40
 have HC5 := Aside0.mk H
 clear H
 go_enter Tryz.func102, Tryz.ntmps102
 go_upto_region 2 with (first | ((with_reducible refine gate_dst (N := 5) rfl ?_); refine box_event ?hg (N := 5) ?hd (cs := #[.bool a2_0, .slice A2_1 l2_1.length c2_1, .int .i64 a2_2, .bool a2_3]) (t := 123) ?hr ?_; (case hd => rfl); (case hg => rfl); (case hr => first | (go_simp; done) | (go_simp; rfl)); intro gb611 hg w6 hbox hb; replace HO2_1 := Aside0.mk (Kd.V_below (Kd.V_elderB (by (with_reducible repeat (first | apply Kd.V_alloc | apply Kd.V_drewN | apply Kd.V_drew)); exact HO2_1.out) gb611 (Nat.le_of_eq hg.symm)) hb); have BK611 := Aside0.mk (hbox); have GW611 := Aside0.mk (bs HB hg : w.heap.size ≤ gb611); replace HB := bt_ HB hb; clear hb hbox hg) | ((with_reducible refine gate_dst (N := 6) rfl ?_); refine box_event ?hg (N := 6) ?hd (cs := #[.int .i64 0, .int .i64 0]) (t := 23) ?hr ?_; (case hd => rfl); (case hg => rfl); (case hr => first | (go_simp; done) | (go_simp; rfl)); intro gb612 hg w7 hbox hb; replace HO2_1 := Aside0.mk (Kd.V_below (Kd.V_elderB (by (with_reducible repeat (first | apply Kd.V_alloc | apply Kd.V_drewN | apply Kd.V_drew)); exact HO2_1.out) gb612 (Nat.le_of_eq hg.symm)) hb); have BK612 := Aside0.mk (hbox); have GW612 := Aside0.mk (bs HB hg : w.heap.size ≤ gb612); replace HB := bt_ HB hb; have NB611_612 := Aside0.mk (nl BK611 hg); have NB612_611 := Aside0.mk (ng BK611 hg); replace BK611 := Aside0.mk (bb BK611 hb); clear hb hbox hg) | (go_at_call 25; (with_reducible refine (environref02_Digits.calls a0 t613 t614 _ A4.out).mono ?_); rintro e w' ⟨rfl, ⟨nd, rfl⟩⟩; (try first | exact ⟨rfl, _, World.drewN_drewN _ _ _⟩ | exact ⟨rfl, _, Eq.trans (World.drewN_drewN _ _ _) (congrArg (World.drewN _) (Nat.add_assoc _ _ _))⟩)))
 repeat (go_quiet (first | ((with_reducible refine gate_dst (N := 5) rfl ?_); refine box_event ?hg (N := 5) ?hd (cs := #[.bool a2_0, .slice A2_1 l2_1.length c2_1, .int .i64 a2_2, .bool a2_3]) (t := 123) ?hr ?_; (case hd => rfl); (case hg => rfl); (case hr => first | (go_simp; done) | (go_simp; rfl)); intro gb611 hg w6 hbox hb; replace HO2_1 := Aside0.mk (Kd.V_below (Kd.V_elderB (by (with_reducible repeat (first | apply Kd.V_alloc | apply Kd.V_drewN | apply Kd.V_drew)); exact HO2_1.out) gb611 (Nat.le_of_eq hg.symm)) hb); have BK611 := Aside0.mk (hbox); have GW611 := Aside0.mk (bs HB hg : w.heap.size ≤ gb611); replace HB := bt_ HB hb; clear hb hbox hg) | ((with_reducible refine gate_dst (N := 6) rfl ?_); refine box_event ?hg (N := 6) ?hd (cs := #[.int .i64 0, .int .i64 0]) (t := 23) ?hr ?_; (case hd => rfl); (case hg => rfl); (case hr => first | (go_simp; done) | (go_simp; rfl)); intro gb612 hg w7 hbox hb; replace HO2_1 := Aside0.mk (Kd.V_below (Kd.V_elderB (by (with_reducible repeat (first | apply Kd.V_alloc | apply Kd.V_drewN | apply Kd.V_drew)); exact HO2_1.out) gb612 (Nat.le_of_eq hg.symm)) hb); have BK612 := Aside0.mk (hbox); have GW612 := Aside0.mk (bs HB hg : w.heap.size ≤ gb612); replace HB := bt_ HB hb; have NB611_612 := Aside0.mk (nl BK611 hg); have NB612_611 := Aside0.mk (ng BK611 hg); replace BK611 := Aside0.mk (bb BK611 hb); clear hb hbox hg) | (go_at_call 25; (with_reducible refine (environref02_Digits.calls a0 t613 t614 _ A4.out).mono ?_); rintro e w' ⟨rfl, ⟨nd, rfl⟩⟩; (try first | exact ⟨rfl, _, World.drewN_drewN _ _ _⟩ | exact ⟨rfl, _, Eq.trans (World.drewN_drewN _ _ _) (congrArg (World.drewN _) (Nat.add_assoc _ _ _))⟩))); go_upto_region 2 with (first | ((with_reducible refine gate_dst (N := 5) rfl ?_); refine box_event ?hg (N := 5) ?hd (cs := #[.bool a2_0, .slice A2_1 l2_1.length c2_1, .int .i64 a2_2, .bool a2_3]) (t := 123) ?hr ?_; (case hd => rfl); (case hg => rfl); (case hr => first | (go_simp; done) | (go_simp; rfl)); intro gb611 hg w6 hbox hb; replace HO2_1 := Aside0.mk (Kd.V_below (Kd.V_elderB (by (with_reducible repeat (first | apply Kd.V_alloc | apply Kd.V_drewN | apply Kd.V_drew)); exact HO2_1.out) gb611 (Nat.le_of_eq hg.symm)) hb); have BK611 := Aside0.mk (hbox); have GW611 := Aside0.mk (bs HB hg : w.heap.size ≤ gb611); replace HB := bt_ HB hb; clear hb hbox hg) | ((with_reducible refine gate_dst (N := 6) rfl ?_); refine box_event ?hg (N := 6) ?hd (cs := #[.int .i64 0, .int .i64 0]) (t := 23) ?hr ?_; (case hd => rfl); (case hg => rfl); (case hr => first | (go_simp; done) | (go_simp; rfl)); intro gb612 hg w7 hbox hb; replace HO2_1 := Aside0.mk (Kd.V_below (Kd.V_elderB (by (with_reducible repeat (first | apply Kd.V_alloc | apply Kd.V_drewN | apply Kd.V_drew)); exact HO2_1.out) gb612 (Nat.le_of_eq hg.symm)) hb); have BK612 := Aside0.mk (hbox); have GW612 := Aside0.mk (bs HB hg : w.heap.size ≤ gb612); replace HB := bt_ HB hb; have NB611_612 := Aside0.mk (nl BK611 hg); have NB612_611 := Aside0.mk (ng BK611 hg); replace BK611 := Aside0.mk (bb BK611 hb); clear hb hbox hg) | (go_at_call 25; (with_reducible refine (environref02_Digits.calls a0 t613 t614 _ A4.out).mono ?_); rintro e w' ⟨rfl, ⟨nd, rfl⟩⟩; (try first | exact ⟨rfl, _, World.drewN_drewN _ _ _⟩ | exact ⟨rfl, _, Eq.trans (World.drewN_drewN _ _ _) (congrArg (World.drewN _) (Nat.add_assoc _ _ _))⟩))))
 (try simp only [sx])
 go_cut [29] (fun v29 wc => ∃ (kq : Nat) (x29_4 : Bool), v29 = .bool x29_4 ∧ Aside0 (environref02_Rounded.j0 kq a1 t613 x29_4 a2_0 l2_1 a2_2 a2_3 = some (r1, r2, r3)) ∧ Aside0 (kq ≤ k) ∧ Aside0 (Kd.V (Kd.int .i64) 3 wc w.heap.size (fun k_ => (P2_1_ k_ ∨ w.heap.size ≤ k_) ∧ k_ ≠ gb611 ∧ k_ ≠ gb612) (.slice A2_1 l2_1.length c2_1) l2_1) ∧ Aside0 (wc.heap[gb611]? = some (.cells #[.bool a2_0, (.slice A2_1 l2_1.length c2_1), .int .i64 a2_2, .bool a2_3] 123 (0, 0))) ∧ Aside0 (wc.heap[gb612]? = some (.cells #[.int .i64 0, .int .i64 0] 23 (0, 0))) ∧ Aside0 (Below w.heap.size w wc))
 case first =>
  have H := HC5.out
  clear HC5
  by_cases c8 : (l2_1.length : Int) = 0
  ·rw [if_pos c8] at H
   have c8b0 := beq_iff_eq.mpr c8
   have c8b1 := bne_eq_false_iff_eq.mpr c8
   clear c8
   (first | rw [c8b0] | (simp only [i64_w, i32_w]; rw [c8b0]) | skip)
   have H' := Aside0.mk H
   clear H
   have hnb9 := NB611_612.out
   have hnc9 := NB612_611.out
   obtain ⟨hcz10_0, hcz10_1, hcz10_2, hcz10_3, hfz10_0, hfz10_1, hfz10_2, hfz10_3⟩ := cf4 BK611
   go_wp2
   repeat (go_quiet (fail); try go_wp2)
   go_meet
   case rel => exact ⟨_, (!a2_3), q1, H', ko, ⟨by (with_reducible repeat (first | apply Kd.V_alloc | apply Kd.V_drewN | apply Kd.V_drew)); exact Kd.V_mono HO2_1.out (fun _ hk => ⟨hk.1.1, ⟨hk.1.2, hk.2⟩⟩)⟩, ⟨by (with_reducible repeat (first | refine blk_drewN ?_ _ | refine blk_drew ?_ | refine blk_alloc ?_ _)); exact BK611.out⟩, ⟨by (with_reducible repeat (first | refine blk_drewN ?_ _ | refine blk_drew ?_ | refine blk_alloc ?_ _)); exact BK612.out⟩, ⟨bw HB⟩⟩
  ·rw [if_neg c8] at H
   have c8b0 := beq_eq_false_iff_ne.mpr c8
   have c8b1 := bne_iff_ne.mpr c8
   have c8b2 : ¬ (l2_1 = []) := fun h_ => c8 (by rw [h_]; rfl)
   (first | rw [c8b0] | (simp only [i64_w, i32_w]; rw [c8b0]) | skip)
   have H' := Aside0.mk H
   clear H
   have hnb11 := NB611_612.out
   have hnc11 := NB612_611.out
   obtain ⟨hcz12_0, hcz12_1, hcz12_2, hcz12_3, hfz12_0, hfz12_1, hfz12_2, hfz12_3⟩ := cf4 BK611
   go_wp2
   repeat (go_quiet (fail); try go_wp2)
   go_meet
   case rel => exact ⟨_, (false), q1, H', ko, ⟨by (with_reducible repeat (first | apply Kd.V_alloc | apply Kd.V_drewN | apply Kd.V_drew)); exact Kd.V_mono HO2_1.out (fun _ hk => ⟨hk.1.1, ⟨hk.1.2, hk.2⟩⟩)⟩, ⟨by (with_reducible repeat (first | refine blk_drewN ?_ _ | refine blk_drew ?_ | refine blk_alloc ?_ _)); exact BK611.out⟩, ⟨by (with_reducible repeat (first | refine blk_drewN ?_ _ | refine blk_drew ?_ | refine blk_alloc ?_ _)); exact BK612.out⟩, ⟨bw HB⟩⟩
 case rest =>
  clear HC5
  obtain ⟨kq, x29_4, rfl, HA, HJ4, HO_612001, BK611, BK612, HB⟩ := hcut
  cases kq with
  | zero => exact absurd HA.out (by simp [environref02_Rounded.j0])
  | succ kj4 =>
   have H := HA.out
   clear HA
   simp only [environref02_Rounded.j0] at H
   by_cases c13 : x29_4 = true
   ·subst c13
    rw [if_pos rfl] at H
    simp only [Option.some.injEq, Prod.mk.injEq] at H
    obtain ⟨rfl, rfl, rfl⟩ := H
    have hnb14 := NB612_611.out
    have hnc14 := NB611_612.out
    have hcz15_0 : wc.cell? ⟨gb612, 0, none⟩ = some (.int .i64 0) := (blk_cell BK612.out 0).trans rfl
    have hcz15_1 : wc.cell? ⟨gb612, 1, none⟩ = some (.int .i64 0) := (blk_cell BK612.out 1).trans rfl
    have hfz15_0 := blk_frozen BK612.out 0
    have hfz15_1 := blk_frozen BK612.out 1
    go_wp2
    repeat (go_quiet (fail); try go_wp2)
    refine bodyPost_ret (results_ct rfl _ _ gb612 23 #[.int .i64 0, .int .i64 0] (0, 0) _ rfl (by (with_reducible repeat (first | refine blk_drewN ?_ _ | refine blk_drew ?_ | refine blk_alloc ?_ _)); refine blk_put (cs := #[.int .i64 0, .int .i64 0]) ?_ 1 _ rfl; (with_reducible repeat (first | refine blk_drewN ?_ _ | refine blk_drew ?_ | refine blk_alloc ?_ _)); refine blk_put (cs := #[.int .i64 0, .int .i64 0]) ?_ 0 _ rfl; (with_reducible repeat (first | refine blk_drewN ?_ _ | refine blk_drew ?_ | refine blk_alloc ?_ _)); exact BK612.out) Tryz.underlying23 rfl (by kernel_rfl)) rfl ?_
    exact ⟨by first | rfl | (simp [errW_none, errW_some] <;> rfl) | (simp [*, errW_none, errW_some] <;> rfl), bw HB⟩
   ·replace c13 := Bool.eq_false_iff.mpr c13
    subst c13
    rw [if_neg (show ¬ (false = true) by decide)] at H
    have HC16 := Aside0.mk H
    clear H
    have hnb17 := NB611_612.out
    have hnc17 := NB612_611.out
    have hcz18_0 : wc.cell? ⟨gb611, 0, none⟩ = some (.bool a2_0) := (blk_cell BK611.out 0).trans rfl
    have hcz18_1 : wc.cell? ⟨gb611, 1, none⟩ = some (.slice A2_1 l2_1.length c2_1) := (blk_cell BK611.out 1).trans rfl
    have hcz18_2 : wc.cell? ⟨gb611, 2, none⟩ = some (.int .i64 a2_2) := (blk_cell BK611.out 2).trans rfl
    have hcz18_3 : wc.cell? ⟨gb611, 3, none⟩ = some (.bool a2_3) := (blk_cell BK611.out 3).trans rfl
    have hfz18_0 := blk_frozen BK611.out 0
    have hfz18_1 := blk_frozen BK611.out 1
    have hfz18_2 := blk_frozen BK611.out 2
    have hfz18_3 := blk_frozen BK611.out 3
    go_upto_if 40 with (fail)
    repeat (go_quiet (fail); go_upto_if 40 with (fail))
    go_cut [10] (fun v10 wc => ∃ (kq : Nat) (x10_15 : Int), v10 = .int .i64 x10_15 ∧ Aside0 (environref02_Rounded.j1 kq a1 t613 x10_15 a2_0 l2_1 a2_2 a2_3 = some (r1, r2, r3)) ∧ Aside0 (kq ≤ kj4) ∧ Aside0 (Kd.V (Kd.int .i64) 3 wc w.heap.size (fun k_ => (P2_1_ k_ ∨ w.heap.size ≤ k_) ∧ k_ ≠ gb611 ∧ k_ ≠ gb612) (.slice A2_1 l2_1.length c2_1) l2_1) ∧ Aside0 (wc.heap[gb611]? = some (.cells #[.bool a2_0, (.slice A2_1 l2_1.length c2_1), .int .i64 a2_2, .bool a2_3] 123 (0, 0))) ∧ Aside0 (wc.heap[gb612]? = some (.cells #[.int .i64 0, .int .i64 0] 23 (0, 0))) ∧ Aside0 (Below w.heap.size w wc))
    case first =>
     have H := HC16.out
     clear HC16
     by_cases c19 : (wrap64 ((wrap64 (a2_2 + (l2_1.length : Int))) - t613)) < (-400)
     ·rw [if_pos c19] at H
      have c19b0 := decide_eq_true c19
      clear c19
      (first | rw [c19b0] | (simp only [i64_w, i32_w]; rw [c19b0]) | skip)
      have H' := Aside0.mk H
      clear H
      go_wp2
      repeat (go_quiet (fail); try go_wp2)
      go_meet
      case rel => exact ⟨_, ((-400)), q1, H', ⟨by have := HJ4.out; first | omega | exact Nat.le_refl _⟩, ⟨by (with_reducible repeat (first | apply Kd.V_alloc | apply Kd.V_drewN | apply Kd.V_drew)); exact HO_612001.out⟩, ⟨by (with_reducible repeat (first | refine blk_drewN ?_ _ | refine blk_drew ?_ | refine blk_alloc ?_ _)); exact BK611.out⟩, ⟨by (with_reducible repeat (first | refine blk_drewN ?_ _ | refine blk_drew ?_ | refine blk_alloc ?_ _)); exact BK612.out⟩, ⟨bw HB⟩⟩
     ·rw [if_neg c19] at H
      have c19b0 := decide_eq_false c19
      clear c19
      (first | rw [c19b0] | (simp only [i64_w, i32_w]; rw [c19b0]) | skip)
      have H' := Aside0.mk H
      clear H
      go_wp2
      repeat (go_quiet (fail); try go_wp2)
      go_meet
      case rel => exact ⟨_, (wrap64 ((wrap64 (a2_2 + (l2_1.length : Int))) - t613)), q1, H', ⟨by have := HJ4.out; first | omega | exact Nat.le_refl _⟩, ⟨by (with_reducible repeat (first | apply Kd.V_alloc | apply Kd.V_drewN | apply Kd.V_drew)); exact HO_612001.out⟩, ⟨by (with_reducible repeat (first | refine blk_drewN ?_ _ | refine blk_drew ?_ | refine blk_alloc ?_ _)); exact BK611.out⟩, ⟨by (with_reducible repeat (first | refine blk_drewN ?_ _ | refine blk_drew ?_ | refine blk_alloc ?_ _)); exact BK612.out⟩, ⟨bw HB⟩⟩
    case rest =>
     clear HC16
     try clear c13
     try clear hcz18_0
     try clear hcz18_1
     try clear hcz18_2
     try clear hcz18_3
     try clear hfz18_0
     try clear hfz18_1
     try clear hfz18_2
     try clear hfz18_3
     obtain ⟨kq, x10_15, rfl, HA, HJ15, HO_612001, BK611, BK612, HB⟩ := hcut
     cases kq with
     | zero => exact absurd HA.out (by simp [environref02_Rounded.j1])
     | succ kj15 =>
      have H := HA.out
      clear HA
      simp only [environref02_Rounded.j1] at H
      have HC20 := Aside0.mk H
      clear H
      have hnb21 := NB611_612.out
      have hnc21 := NB612_611.out
      have hcz22_0 : wc.cell? ⟨gb611, 0, none⟩ = some (.bool a2_0) := (blk_cell BK611.out 0).trans rfl
      have hcz22_1 : wc.cell? ⟨gb611, 1, none⟩ = some (.slice A2_1 l2_1.length c2_1) := (blk_cell BK611.out 1).trans rfl
      have hcz22_2 : wc.cell? ⟨gb611, 2, none⟩ = some (.int .i64 a2_2) := (blk_cell BK611.out 2).trans rfl
      have hcz22_3 : wc.cell? ⟨gb611, 3, none⟩ = some (.bool a2_3) := (blk_cell BK611.out 3).trans rfl
      have hfz22_0 := blk_frozen BK611.out 0
      have hfz22_1 := blk_frozen BK611.out 1
      have hfz22_2 := blk_frozen BK611.out 2
      have hfz22_3 := blk_frozen BK611.out 3
      go_upto_if 48 with (fail)
      repeat (go_quiet (fail); go_upto_if 48 with (fail))
      go_cut [10, 11, 12, 13] (fun v10 v11 v12 v13 wc => ∃ (kq : Nat) (x10_19 : Int) (x11_19 : List Int) (x12_19 : Int) (x13_19 : Bool), v10 = .int .i64 x10_19 ∧ v12 = .int .i64 x12_19 ∧ v13 = .bool x13_19 ∧ Aside0 (environref02_Rounded.j2 kq a1 t613 x10_19 x11_19 x12_19 x13_19 a2_0 l2_1 a2_2 a2_3 = some (r1, r2, r3)) ∧ Aside0 (kq ≤ kj15) ∧ Aside0 (Kd.V (Kd.int .i64) 3 wc w.heap.size (fun k_ => (P2_1_ k_ ∨ w.heap.size ≤ k_) ∧ k_ ≠ gb611 ∧ k_ ≠ gb612) v11 x11_19) ∧ Aside0 (Kd.V (Kd.int .i64) 3 wc w.heap.size (fun k_ => (P2_1_ k_ ∨ w.heap.size ≤ k_) ∧ k_ ≠ gb611 ∧ k_ ≠ gb612) (.slice A2_1 l2_1.length c2_1) l2_1) ∧ Aside0 (wc.heap[gb611]? = some (.cells #[.bool a2_0, (.slice A2_1 l2_1.length c2_1), .int .i64 a2_2, .bool a2_3] 123 (0, 0))) ∧ Aside0 (wc.heap[gb612]? = some (.cells #[.int .i64 0, .int .i64 0] 23 (0, 0))) ∧ Aside0 (Below w.heap.size w wc))
      case first =>
       have H := HC20.out
       clear HC20
       by_cases c23 : x10_15 > a2_2
       ·rw [if_pos c23] at H
        have c23b0 := decide_eq_true c23
        clear c23
        (first | rw [c23b0] | (simp only [i64_w, i32_w]; rw [c23b0]) | skip)
        replace H := Option.bind_eq_some_iff.mp H
        obtain ⟨⟨t615, t618, t619⟩, A240, H⟩ := H
        try dsimp only at H
        have A24 := Aside0.mk A240
        clear A240
        have H' := Aside0.mk H
        clear H
        have hnb25 := NB611_612.out
        have hnc25 := NB612_611.out
        have hcz26_0 : wc.cell? ⟨gb611, 0, none⟩ = some (.bool a2_0) := (blk_cell BK611.out 0).trans rfl
        have hcz26_1 : wc.cell? ⟨gb611, 1, none⟩ = some (.slice A2_1 l2_1.length c2_1) := (blk_cell BK611.out 1).trans rfl
        have hcz26_2 : wc.cell? ⟨gb611, 2, none⟩ = some (.int .i64 a2_2) := (blk_cell BK611.out 2).trans rfl
        have hcz26_3 : wc.cell? ⟨gb611, 3, none⟩ = some (.bool a2_3) := (blk_cell BK611.out 3).trans rfl
        have hfz26_0 := blk_frozen BK611.out 0
        have hfz26_1 := blk_frozen BK611.out 1
        have hfz26_2 := blk_frozen BK611.out 2
        have hfz26_3 := blk_frozen BK611.out 3
        go_wp2_with (first | (go_at_call 125; (with_reducible refine (environref02_cut.calls kj15 a2_0 _ _ l2_1 a2_2 a2_3 (wrap64 (x10_15 - a2_2)) t615 t618 t619 _ ?side1 ?side2 A24.out).mono ?_); (case side1 => repeat (first | exact (Kd.V_reads' HO_612001.out).2.2 | (with_reducible refine Kd.C_alloc ?_ _) | (with_reducible refine Kd.C_drewN ?_ _) | (with_reducible refine Kd.C_drew ?_))); (case side2 => exact (Kd.V_reads' HO_612001.out).2.1); rintro e w27 ⟨v616, rfl, ho0, hb⟩; replace HO_612001 := Aside0.mk (Kd.V_below (by (with_reducible repeat (first | apply Kd.V_alloc | apply Kd.V_drewN | apply Kd.V_drew)); exact HO_612001.out) hb); have HO617 := Aside0.mk (Kd.V_lower (Kd.V_mono (ok' := fun k_ => (P2_1_ k_ ∨ w.heap.size ≤ k_) ∧ k_ ≠ gb611 ∧ k_ ≠ gb612) ho0 (fun k_ hk_ => ⟨(.inr (Nat.le_trans (below_size (bw HB)) hk_)), (Kd.freshB (g := gb611) (o := .cells #[.bool a2_0, .slice A2_1 l2_1.length c2_1, .int .i64 a2_2, .bool a2_3] 123 (0, 0)) (bk BK611) k_ hk_), (Kd.freshB (g := gb612) (o := .cells #[.int .i64 0, .int .i64 0] 23 (0, 0)) (bk BK612) k_ hk_)⟩)) (below_size (bw HB))); replace BK611 := Aside0.mk (bb BK611 hb); replace BK612 := Aside0.mk (bb BK612 hb); replace HB := bt_ HB hb; (try clear hb); (try clear ho0)))
        repeat (go_quiet (first | (go_at_call 125; (with_reducible refine (environref02_cut.calls kj15 a2_0 _ _ l2_1 a2_2 a2_3 (wrap64 (x10_15 - a2_2)) t615 t618 t619 _ ?side1 ?side2 A24.out).mono ?_); (case side1 => repeat (first | exact (Kd.V_reads' HO_612001.out).2.2 | (with_reducible refine Kd.C_alloc ?_ _) | (with_reducible refine Kd.C_drewN ?_ _) | (with_reducible refine Kd.C_drew ?_))); (case side2 => exact (Kd.V_reads' HO_612001.out).2.1); rintro e w27 ⟨v616, rfl, ho0, hb⟩; replace HO_612001 := Aside0.mk (Kd.V_below (by (with_reducible repeat (first | apply Kd.V_alloc | apply Kd.V_drewN | apply Kd.V_drew)); exact HO_612001.out) hb); have HO617 := Aside0.mk (Kd.V_lower (Kd.V_mono (ok' := fun k_ => (P2_1_ k_ ∨ w.heap.size ≤ k_) ∧ k_ ≠ gb611 ∧ k_ ≠ gb612) ho0 (fun k_ hk_ => ⟨(.inr (Nat.le_trans (below_size (bw HB)) hk_)), (Kd.freshB (g := gb611) (o := .cells #[.bool a2_0, .slice A2_1 l2_1.length c2_1, .int .i64 a2_2, .bool a2_3] 123 (0, 0)) (bk BK611) k_ hk_), (Kd.freshB (g := gb612) (o := .cells #[.int .i64 0, .int .i64 0] 23 (0, 0)) (bk BK612) k_ hk_)⟩)) (below_size (bw HB))); replace BK611 := Aside0.mk (bb BK611 hb); replace BK612 := Aside0.mk (bb BK612 hb); replace HB := bt_ HB hb; (try clear hb); (try clear ho0))); try go_wp2_with (first | (go_at_call 125; (with_reducible refine (environref02_cut.calls kj15 a2_0 _ _ l2_1 a2_2 a2_3 (wrap64 (x10_15 - a2_2)) t615 t618 t619 _ ?side1 ?side2 A24.out).mono ?_); (case side1 => repeat (first | exact (Kd.V_reads' HO_612001.out).2.2 | (with_reducible refine Kd.C_alloc ?_ _) | (with_reducible refine Kd.C_drewN ?_ _) | (with_reducible refine Kd.C_drew ?_))); (case side2 => exact (Kd.V_reads' HO_612001.out).2.1); rintro e w27 ⟨v616, rfl, ho0, hb⟩; replace HO_612001 := Aside0.mk (Kd.V_below (by (with_reducible repeat (first | apply Kd.V_alloc | apply Kd.V_drewN | apply Kd.V_drew)); exact HO_612001.out) hb); have HO617 := Aside0.mk (Kd.V_lower (Kd.V_mono (ok' := fun k_ => (P2_1_ k_ ∨ w.heap.size ≤ k_) ∧ k_ ≠ gb611 ∧ k_ ≠ gb612) ho0 (fun k_ hk_ => ⟨(.inr (Nat.le_trans (below_size (bw HB)) hk_)), (Kd.freshB (g := gb611) (o := .cells #[.bool a2_0, .slice A2_1 l2_1.length c2_1, .int .i64 a2_2, .bool a2_3] 123 (0, 0)) (bk BK611) k_ hk_), (Kd.freshB (g := gb612) (o := .cells #[.int .i64 0, .int .i64 0] 23 (0, 0)) (bk BK612) k_ hk_)⟩)) (below_size (bw HB))); replace BK611 := Aside0.mk (bb BK611 hb); replace BK612 := Aside0.mk (bb BK612 hb); replace HB := bt_ HB hb; (try clear hb); (try clear ho0))))
        go_meet
        case rel => exact ⟨_, (x10_15), (t615), (t618), (t619), q1, q1, q1, H', ⟨by have := HJ4.out; have := HJ15.out; first | omega | exact Nat.le_refl _⟩, ⟨by (with_reducible repeat (first | apply Kd.V_alloc | apply Kd.V_drewN | apply Kd.V_drew)); exact HO617.out⟩, ⟨by (with_reducible repeat (first | apply Kd.V_alloc | apply Kd.V_drewN | apply Kd.V_drew)); exact HO_612001.out⟩, ⟨by (with_reducible repeat (first | refine blk_drewN ?_ _ | refine blk_drew ?_ | refine blk_alloc ?_ _)); exact BK611.out⟩, ⟨by (with_reducible repeat (first | refine blk_drewN ?_ _ | refine blk_drew ?_ | refine blk_alloc ?_ _)); exact BK612.out⟩, ⟨bw HB⟩⟩
       ·rw [if_neg c23] at H
        have c23b0 := decide_eq_false c23
        clear c23
        (first | rw [c23b0] | (simp only [i64_w, i32_w]; rw [c23b0]) | skip)
        have H' := Aside0.mk H
        clear H
        have hnb28 := NB611_612.out
        have hnc28 := NB612_611.out
        have hcz29_0 : wc.cell? ⟨gb611, 0, none⟩ = some (.bool a2_0) := (blk_cell BK611.out 0).trans rfl
        have hcz29_1 : wc.cell? ⟨gb611, 1, none⟩ = some (.slice A2_1 l2_1.length c2_1) := (blk_cell BK611.out 1).trans rfl
        have hcz29_2 : wc.cell? ⟨gb611, 2, none⟩ = some (.int .i64 a2_2) := (blk_cell BK611.out 2).trans rfl
        have hcz29_3 : wc.cell? ⟨gb611, 3, none⟩ = some (.bool a2_3) := (blk_cell BK611.out 3).trans rfl
        have hfz29_0 := blk_frozen BK611.out 0
        have hfz29_1 := blk_frozen BK611.out 1
        have hfz29_2 := blk_frozen BK611.out 2
        have hfz29_3 := blk_frozen BK611.out 3
        go_wp2
        repeat (go_quiet (fail); try go_wp2)
        go_meet
        case rel => exact ⟨_, (a2_2), (l2_1), (0), (a2_3), q1, q1, q1, H', ⟨by have := HJ4.out; have := HJ15.out; first | omega | exact Nat.le_refl _⟩, ⟨by (with_reducible repeat (first | apply Kd.V_alloc | apply Kd.V_drewN | apply Kd.V_drew)); exact HO_612001.out⟩, ⟨by (with_reducible repeat (first | apply Kd.V_alloc | apply Kd.V_drewN | apply Kd.V_drew)); exact HO_612001.out⟩, ⟨by (with_reducible repeat (first | refine blk_drewN ?_ _ | refine blk_drew ?_ | refine blk_alloc ?_ _)); exact BK611.out⟩, ⟨by (with_reducible repeat (first | refine blk_drewN ?_ _ | refine blk_drew ?_ | refine blk_alloc ?_ _)); exact BK612.out⟩, ⟨bw HB⟩⟩
      case rest =>
       clear HC20
       try clear c13
       try clear hcz18_0
       try clear hcz18_1
       try clear hcz18_2
       try clear hcz18_3
       try clear hcz22_0
       try clear hcz22_1
       try clear hcz22_2
       try clear hcz22_3
       try clear hfz18_0
       try clear hfz18_1
       try clear hfz18_2
       try clear hfz18_3
       try clear hfz22_0
       try clear hfz22_1
       try clear hfz22_2
       try clear hfz22_3
       obtain ⟨kq, x10_19, x11_19, x12_19, x13_19, rfl, rfl, rfl, HA, HJ19, HO_11, HO_612001, BK611, BK612, HB⟩ := hcut
       cases kq with
       | zero => exact absurd HA.out (by simp [environref02_Rounded.j2])
       | succ kj19 =>
        have H := HA.out
        clear HA
        simp only [environref02_Rounded.j2] at H
        replace H := Option.bind_eq_some_iff.mp H
        obtain ⟨t620, A300, H⟩ := H
        try dsimp only at H
        have A30 := Aside0.mk A300
        clear A300
        have HC31 := Aside0.mk H
        clear H
        have hnb32 := NB611_612.out
        have hnc32 := NB612_611.out
        have hcz33_0 : wc.cell? ⟨gb611, 0, none⟩ = some (.bool a2_0) := (blk_cell BK611.out 0).trans rfl
        have hcz33_1 : wc.cell? ⟨gb611, 1, none⟩ = some (.slice A2_1 l2_1.length c2_1) := (blk_cell BK611.out 1).trans rfl
        have hcz33_2 : wc.cell? ⟨gb611, 2, none⟩ = some (.int .i64 a2_2) := (blk_cell BK611.out 2).trans rfl
        have hcz33_3 : wc.cell? ⟨gb611, 3, none⟩ = some (.bool a2_3) := (blk_cell BK611.out 3).trans rfl
        have hfz33_0 := blk_frozen BK611.out 0
        have hfz33_1 := blk_frozen BK611.out 1
        have hfz33_2 := blk_frozen BK611.out 2
        have hfz33_3 := blk_frozen BK611.out 3
        obtain ⟨Ao34, co34, eo34⟩ := Kd.V_slice HO_11.out
        subst eo34
        go_upto_if 67 with (first | (go_at_call 126; (with_reducible refine (environref02_away.calls a1 a2_0 _ _ x11_19 x12_19 x13_19 t620 _ ?side1 ?side2 A30.out).mono ?_); (case side1 => repeat (first | exact (Kd.V_reads' HO_11.out).2.2 | (with_reducible refine Kd.C_alloc ?_ _) | (with_reducible refine Kd.C_drewN ?_ _) | (with_reducible refine Kd.C_drew ?_))); (case side2 => exact (Kd.V_reads' HO_11.out).2.1); rintro e w' ⟨rfl, ⟨nd, rfl⟩⟩; (try first | exact ⟨rfl, _, World.drewN_drewN _ _ _⟩ | exact ⟨rfl, _, Eq.trans (World.drewN_drewN _ _ _) (congrArg (World.drewN _) (Nat.add_assoc _ _ _))⟩)))
        repeat (go_quiet (first | (go_at_call 126; (with_reducible refine (environref02_away.calls a1 a2_0 _ _ x11_19 x12_19 x13_19 t620 _ ?side1 ?side2 A30.out).mono ?_); (case side1 => repeat (first | exact (Kd.V_reads' HO_11.out).2.2 | (with_reducible refine Kd.C_alloc ?_ _) | (with_reducible refine Kd.C_drewN ?_ _) | (with_reducible refine Kd.C_drew ?_))); (case side2 => exact (Kd.V_reads' HO_11.out).2.1); rintro e w' ⟨rfl, ⟨nd, rfl⟩⟩; (try first | exact ⟨rfl, _, World.drewN_drewN _ _ _⟩ | exact ⟨rfl, _, Eq.trans (World.drewN_drewN _ _ _) (congrArg (World.drewN _) (Nat.add_assoc _ _ _))⟩))); go_upto_if 67 with (first | (go_at_call 126; (with_reducible refine (environref02_away.calls a1 a2_0 _ _ x11_19 x12_19 x13_19 t620 _ ?side1 ?side2 A30.out).mono ?_); (case side1 => repeat (first | exact (Kd.V_reads' HO_11.out).2.2 | (with_reducible refine Kd.C_alloc ?_ _) | (with_reducible refine Kd.C_drewN ?_ _) | (with_reducible refine Kd.C_drew ?_))); (case side2 => exact (Kd.V_reads' HO_11.out).2.1); rintro e w' ⟨rfl, ⟨nd, rfl⟩⟩; (try first | exact ⟨rfl, _, World.drewN_drewN _ _ _⟩ | exact ⟨rfl, _, Eq.trans (World.drewN_drewN _ _ _) (congrArg (World.drewN _) (Nat.add_assoc _ _ _))⟩))))
        (try simp only [sx])
        go_cut [11] (fun v11 wc => ∃ (kq : Nat) (x11_30 : List Int), Aside0 (environref02_Rounded.j3 kq a1 t613 x10_19 x11_30 a2_0 l2_1 a2_2 a2_3 = some (r1, r2, r3)) ∧ Aside0 (kq ≤ kj19) ∧ Aside0 (Kd.V (Kd.int .i64) 3 wc w.heap.size (fun k_ => (P2_1_ k_ ∨ w.heap.size ≤ k_) ∧ k_ ≠ gb611 ∧ k_ ≠ gb612) v11 x11_30) ∧ Aside0 (Kd.V (Kd.int .i64) 3 wc w.heap.size (fun k_ => (P2_1_ k_ ∨ w.heap.size ≤ k_) ∧ k_ ≠ gb611 ∧ k_ ≠ gb612) (.slice A2_1 l2_1.length c2_1) l2_1) ∧ Aside0 (wc.heap[gb611]? = some (.cells #[.bool a2_0, (.slice A2_1 l2_1.length c2_1), .int .i64 a2_2, .bool a2_3] 123 (0, 0))) ∧ Aside0 (wc.heap[gb612]? = some (.cells #[.int .i64 0, .int .i64 0] 23 (0, 0))) ∧ Aside0 (Below w.heap.size w wc))
        case first =>
         have H := HC31.out
         clear HC31
         by_cases c35 : t620 = true
         ·subst c35
          rw [if_pos rfl] at H
          replace H := Option.bind_eq_some_iff.mp H
          obtain ⟨t621, A360, H⟩ := H
          try dsimp only at H
          have A36 := Aside0.mk A360
          clear A360
          replace H := Option.bind_eq_some_iff.mp H
          obtain ⟨t624, A370, H⟩ := H
          try dsimp only at H
          have A37 := Aside0.mk A370
          clear A370
          have H' := Aside0.mk H
          clear H
          go_wp2_with (first | (go_at_call 50; (with_reducible refine (environref02_Of.calls kj19 1 t621 _ A36.out).mono ?_); rintro e w38 ⟨v622, rfl, ho0, hb⟩; replace HO_11 := Aside0.mk (Kd.V_elder' (by (with_reducible repeat (first | apply Kd.V_alloc | apply Kd.V_drewN | apply Kd.V_drew)); exact HO_11.out) (Kd.R_base ho0) hb); replace HO_612001 := Aside0.mk (Kd.V_elder' (by (with_reducible repeat (first | apply Kd.V_alloc | apply Kd.V_drewN | apply Kd.V_drew)); exact HO_612001.out) (Kd.R_base ho0) hb); have HO623 := Aside0.mk (Kd.R_lower (Kd.R_newM (M := fun k_ => (w.heap.size ≤ k_)) ho0 (below_size (bw HB)) (fun k_ h_ => h_)) (below_size (bw HB))); replace BK611 := Aside0.mk (bb BK611 hb); replace BK612 := Aside0.mk (bb BK612 hb); replace HB := bt_ HB hb; (try clear hb); (try clear ho0); obtain ⟨Ao39, co39, eo39⟩ := Kd.R_slice HO623.out; subst eo39) | (go_at_call 127; (with_reducible refine (environref02_plus.calls kj19 _ _ x11_19 _ _ t621 t624 _ ?side1 ?side2 ?side3 ?side4 A37.out).mono ?_); (case side1 => repeat (first | exact (Kd.V_reads' HO_11.out).2.2 | (with_reducible refine Kd.C_alloc ?_ _) | (with_reducible refine Kd.C_drewN ?_ _) | (with_reducible refine Kd.C_drew ?_))); (case side2 => exact (Kd.V_reads' HO_11.out).2.1); (case side3 => repeat (first | exact (Kd.R_reads' HO623.out).2.2 | (with_reducible refine Kd.C_alloc ?_ _) | (with_reducible refine Kd.C_drewN ?_ _) | (with_reducible refine Kd.C_drew ?_))); (case side4 => exact (Kd.R_reads' HO623.out).2.1); rintro e w40 ⟨v625, rfl, ho0, hb⟩; replace HO_11 := Aside0.mk (Kd.V_below (by (with_reducible repeat (first | apply Kd.V_alloc | apply Kd.V_drewN | apply Kd.V_drew)); exact HO_11.out) hb); replace HO_612001 := Aside0.mk (Kd.V_below (by (with_reducible repeat (first | apply Kd.V_alloc | apply Kd.V_drewN | apply Kd.V_drew)); exact HO_612001.out) hb); have HO626 := Aside0.mk (Kd.V_lower (Kd.V_mono (ok' := fun k_ => (P2_1_ k_ ∨ w.heap.size ≤ k_) ∧ some k_ ≠ (.slice Ao39 t621.length co39 : Value).ownBlock ∧ k_ ≠ gb611 ∧ k_ ≠ gb612) ho0 (fun k_ hk_ => ⟨(.inr (Nat.le_trans (below_size (bw HB)) hk_)), (Kd.fresh' (Kd.R_lt (by (with_reducible repeat (first | apply Kd.R_alloc | apply Kd.R_drewN | apply Kd.R_drew)); exact HO623.out)) k_ hk_), (Kd.freshB (g := gb611) (o := .cells #[.bool a2_0, .slice A2_1 l2_1.length c2_1, .int .i64 a2_2, .bool a2_3] 123 (0, 0)) (bk BK611) k_ hk_), (Kd.freshB (g := gb612) (o := .cells #[.int .i64 0, .int .i64 0] 23 (0, 0)) (bk BK612) k_ hk_)⟩)) (below_size (bw HB))); replace HO623 := Aside0.mk (Kd.R_below (by (with_reducible repeat (first | apply Kd.R_alloc | apply Kd.R_drewN | apply Kd.R_drew)); exact HO623.out) hb); replace BK611 := Aside0.mk (bb BK611 hb); replace BK612 := Aside0.mk (bb BK612 hb); replace HB := bt_ HB hb; (try clear hb); (try clear ho0)))
          repeat (go_quiet (first | (go_at_call 50; (with_reducible refine (environref02_Of.calls kj19 1 t621 _ A36.out).mono ?_); rintro e w38 ⟨v622, rfl, ho0, hb⟩; replace HO_11 := Aside0.mk (Kd.V_elder' (by (with_reducible repeat (first | apply Kd.V_alloc | apply Kd.V_drewN | apply Kd.V_drew)); exact HO_11.out) (Kd.R_base ho0) hb); replace HO_612001 := Aside0.mk (Kd.V_elder' (by (with_reducible repeat (first | apply Kd.V_alloc | apply Kd.V_drewN | apply Kd.V_drew)); exact HO_612001.out) (Kd.R_base ho0) hb); have HO623 := Aside0.mk (Kd.R_lower (Kd.R_newM (M := fun k_ => (w.heap.size ≤ k_)) ho0 (below_size (bw HB)) (fun k_ h_ => h_)) (below_size (bw HB))); replace BK611 := Aside0.mk (bb BK611 hb); replace BK612 := Aside0.mk (bb BK612 hb); replace HB := bt_ HB hb; (try clear hb); (try clear ho0); obtain ⟨Ao39, co39, eo39⟩ := Kd.R_slice HO623.out; subst eo39) | (go_at_call 127; (with_reducible refine (environref02_plus.calls kj19 _ _ x11_19 _ _ t621 t624 _ ?side1 ?side2 ?side3 ?side4 A37.out).mono ?_); (case side1 => repeat (first | exact (Kd.V_reads' HO_11.out).2.2 | (with_reducible refine Kd.C_alloc ?_ _) | (with_reducible refine Kd.C_drewN ?_ _) | (with_reducible refine Kd.C_drew ?_))); (case side2 => exact (Kd.V_reads' HO_11.out).2.1); (case side3 => repeat (first | exact (Kd.R_reads' HO623.out).2.2 | (with_reducible refine Kd.C_alloc ?_ _) | (with_reducible refine Kd.C_drewN ?_ _) | (with_reducible refine Kd.C_drew ?_))); (case side4 => exact (Kd.R_reads' HO623.out).2.1); rintro e w40 ⟨v625, rfl, ho0, hb⟩; replace HO_11 := Aside0.mk (Kd.V_below (by (with_reducible repeat (first | apply Kd.V_alloc | apply Kd.V_drewN | apply Kd.V_drew)); exact HO_11.out) hb); replace HO_612001 := Aside0.mk (Kd.V_below (by (with_reducible repeat (first | apply Kd.V_alloc | apply Kd.V_drewN | apply Kd.V_drew)); exact HO_612001.out) hb); have HO626 := Aside0.mk (Kd.V_lower (Kd.V_mono (ok' := fun k_ => (P2_1_ k_ ∨ w.heap.size ≤ k_) ∧ some k_ ≠ (.slice Ao39 t621.length co39 : Value).ownBlock ∧ k_ ≠ gb611 ∧ k_ ≠ gb612) ho0 (fun k_ hk_ => ⟨(.inr (Nat.le_trans (below_size (bw HB)) hk_)), (Kd.fresh' (Kd.R_lt (by (with_reducible repeat (first | apply Kd.R_alloc | apply Kd.R_drewN | apply Kd.R_drew)); exact HO623.out)) k_ hk_), (Kd.freshB (g := gb611) (o := .cells #[.bool a2_0, .slice A2_1 l2_1.length c2_1, .int .i64 a2_2, .bool a2_3] 123 (0, 0)) (bk BK611) k_ hk_), (Kd.freshB (g := gb612) (o := .cells #[.int .i64 0, .int .i64 0] 23 (0, 0)) (bk BK612) k_ hk_)⟩)) (below_size (bw HB))); replace HO623 := Aside0.mk (Kd.R_below (by (with_reducible repeat (first | apply Kd.R_alloc | apply Kd.R_drewN | apply Kd.R_drew)); exact HO623.out) hb); replace BK611 := Aside0.mk (bb BK611 hb); replace BK612 := Aside0.mk (bb BK612 hb); replace HB := bt_ HB hb; (try clear hb); (try clear ho0))); try go_wp2_with (first | (go_at_call 50; (with_reducible refine (environref02_Of.calls kj19 1 t621 _ A36.out).mono ?_); rintro e w38 ⟨v622, rfl, ho0, hb⟩; replace HO_11 := Aside0.mk (Kd.V_elder' (by (with_reducible repeat (first | apply Kd.V_alloc | apply Kd.V_drewN | apply Kd.V_drew)); exact HO_11.out) (Kd.R_base ho0) hb); replace HO_612001 := Aside0.mk (Kd.V_elder' (by (with_reducible repeat (first | apply Kd.V_alloc | apply Kd.V_drewN | apply Kd.V_drew)); exact HO_612001.out) (Kd.R_base ho0) hb); have HO623 := Aside0.mk (Kd.R_lower (Kd.R_newM (M := fun k_ => (w.heap.size ≤ k_)) ho0 (below_size (bw HB)) (fun k_ h_ => h_)) (below_size (bw HB))); replace BK611 := Aside0.mk (bb BK611 hb); replace BK612 := Aside0.mk (bb BK612 hb); replace HB := bt_ HB hb; (try clear hb); (try clear ho0); obtain ⟨Ao39, co39, eo39⟩ := Kd.R_slice HO623.out; subst eo39) | (go_at_call 127; (with_reducible refine (environref02_plus.calls kj19 _ _ x11_19 _ _ t621 t624 _ ?side1 ?side2 ?side3 ?side4 A37.out).mono ?_); (case side1 => repeat (first | exact (Kd.V_reads' HO_11.out).2.2 | (with_reducible refine Kd.C_alloc ?_ _) | (with_reducible refine Kd.C_drewN ?_ _) | (with_reducible refine Kd.C_drew ?_))); (case side2 => exact (Kd.V_reads' HO_11.out).2.1); (case side3 => repeat (first | exact (Kd.R_reads' HO623.out).2.2 | (with_reducible refine Kd.C_alloc ?_ _) | (with_reducible refine Kd.C_drewN ?_ _) | (with_reducible refine Kd.C_drew ?_))); (case side4 => exact (Kd.R_reads' HO623.out).2.1); rintro e w40 ⟨v625, rfl, ho0, hb⟩; replace HO_11 := Aside0.mk (Kd.V_below (by (with_reducible repeat (first | apply Kd.V_alloc | apply Kd.V_drewN | apply Kd.V_drew)); exact HO_11.out) hb); replace HO_612001 := Aside0.mk (Kd.V_below (by (with_reducible repeat (first | apply Kd.V_alloc | apply Kd.V_drewN | apply Kd.V_drew)); exact HO_612001.out) hb); have HO626 := Aside0.mk (Kd.V_lower (Kd.V_mono (ok' := fun k_ => (P2_1_ k_ ∨ w.heap.size ≤ k_) ∧ some k_ ≠ (.slice Ao39 t621.length co39 : Value).ownBlock ∧ k_ ≠ gb611 ∧ k_ ≠ gb612) ho0 (fun k_ hk_ => ⟨(.inr (Nat.le_trans (below_size (bw HB)) hk_)), (Kd.fresh' (Kd.R_lt (by (with_reducible repeat (first | apply Kd.R_alloc | apply Kd.R_drewN | apply Kd.R_drew)); exact HO623.out)) k_ hk_), (Kd.freshB (g := gb611) (o := .cells #[.bool a2_0, .slice A2_1 l2_1.length c2_1, .int .i64 a2_2, .bool a2_3] 123 (0, 0)) (bk BK611) k_ hk_), (Kd.freshB (g := gb612) (o := .cells #[.int .i64 0, .int .i64 0] 23 (0, 0)) (bk BK612) k_ hk_)⟩)) (below_size (bw HB))); replace HO623 := Aside0.mk (Kd.R_below (by (with_reducible repeat (first | apply Kd.R_alloc | apply Kd.R_drewN | apply Kd.R_drew)); exact HO623.out) hb); replace BK611 := Aside0.mk (bb BK611 hb); replace BK612 := Aside0.mk (bb BK612 hb); replace HB := bt_ HB hb; (try clear hb); (try clear ho0))))
          go_meet
          case rel => exact ⟨_, (t624), H', ⟨by have := HJ4.out; have := HJ15.out; have := HJ19.out; first | omega | exact Nat.le_refl _⟩, ⟨by (with_reducible repeat (first | apply Kd.V_alloc | apply Kd.V_drewN | apply Kd.V_drew)); exact Kd.V_mono HO626.out (fun _ hk => ⟨hk.1, ⟨hk.2.2.1, hk.2.2.2⟩⟩)⟩, ⟨by (with_reducible repeat (first | apply Kd.V_alloc | apply Kd.V_drewN | apply Kd.V_drew)); exact Kd.V_mono HO_612001.out (fun _ hk => ⟨hk.1.1, ⟨hk.1.2.1, hk.1.2.2⟩⟩)⟩, ⟨by (with_reducible repeat (first | refine blk_drewN ?_ _ | refine blk_drew ?_ | refine blk_alloc ?_ _)); exact BK611.out⟩, ⟨by (with_reducible repeat (first | refine blk_drewN ?_ _ | refine blk_drew ?_ | refine blk_alloc ?_ _)); exact BK612.out⟩, ⟨bw HB⟩⟩
         ·replace c35 := Bool.eq_false_iff.mpr c35
          subst c35
          rw [if_neg (show ¬ (false = true) by decide)] at H
          have H' := Aside0.mk H
          clear H
          go_wp2
          repeat (go_quiet (fail); try go_wp2)
          go_meet
          case rel => exact ⟨_, (x11_19), H', ⟨by have := HJ4.out; have := HJ15.out; have := HJ19.out; first | omega | exact Nat.le_refl _⟩, ⟨by (with_reducible repeat (first | apply Kd.V_alloc | apply Kd.V_drewN | apply Kd.V_drew)); exact HO_11.out⟩, ⟨by (with_reducible repeat (first | apply Kd.V_alloc | apply Kd.V_drewN | apply Kd.V_drew)); exact HO_612001.out⟩, ⟨by (with_reducible repeat (first | refine blk_drewN ?_ _ | refine blk_drew ?_ | refine blk_alloc ?_ _)); exact BK611.out⟩, ⟨by (with_reducible repeat (first | refine blk_drewN ?_ _ | refine blk_drew ?_ | refine blk_alloc ?_ _)); exact BK612.out⟩, ⟨bw HB⟩⟩
        case rest =>
         clear HC31
         try clear c13
         try clear hcz18_0
         try clear hcz18_1
         try clear hcz18_2
         try clear hcz18_3
         try clear hcz22_0
         try clear hcz22_1
         try clear hcz22_2
         try clear hcz22_3
         try clear hcz33_0
         try clear hcz33_1
         try clear hcz33_2
         try clear hcz33_3
         try clear hfz18_0
         try clear hfz18_1
         try clear hfz18_2
         try clear hfz18_3
         try clear hfz22_0
         try clear hfz22_1
         try clear hfz22_2
         try clear hfz22_3
         try clear hfz33_0
         try clear hfz33_1
         try clear hfz33_2
         try clear hfz33_3
         obtain ⟨kq, x11_30, HA, HJ30, HO_11, HO_612001, BK611, BK612, HB⟩ := hcut
         cases kq with
         | zero => exact absurd HA.out (by simp [environref02_Rounded.j3])
         | succ kj30 =>
          have H := HA.out
          clear HA
          simp only [environref02_Rounded.j3] at H
          by_cases c41 : (wrap64 ((x11_30.length : Int) + x10_19)) ≤ (wrap64 (t613 + 400))
          ·rw [if_pos c41] at H
           have c41b0 := decide_eq_true c41
           clear c41
           replace H := Option.bind_eq_some_iff.mp H
           obtain ⟨⟨t627, t628⟩, A420, H⟩ := H
           try dsimp only at H
           have A42 := Aside0.mk A420
           clear A420
           simp only [Option.some.injEq, Prod.mk.injEq] at H
           obtain ⟨rfl, rfl, rfl⟩ := H
           obtain ⟨Ao43, co43, eo43⟩ := Kd.V_slice HO_11.out
           subst eo43
           have hnb44 := NB611_612.out
           have hnc44 := NB612_611.out
           have hcz45_0 : wc.cell? ⟨gb611, 0, none⟩ = some (.bool a2_0) := (blk_cell BK611.out 0).trans rfl
           have hcz45_1 : wc.cell? ⟨gb611, 1, none⟩ = some (.slice A2_1 l2_1.length c2_1) := (blk_cell BK611.out 1).trans rfl
           have hcz45_2 : wc.cell? ⟨gb611, 2, none⟩ = some (.int .i64 a2_2) := (blk_cell BK611.out 2).trans rfl
           have hcz45_3 : wc.cell? ⟨gb611, 3, none⟩ = some (.bool a2_3) := (blk_cell BK611.out 3).trans rfl
           have hfz45_0 := blk_frozen BK611.out 0
           have hfz45_1 := blk_frozen BK611.out 1
           have hfz45_2 := blk_frozen BK611.out 2
           have hfz45_3 := blk_frozen BK611.out 3
           go_wp2_with (first | (go_at_call 128; (with_reducible refine (environref02_form.calls kj30 a2_0 (fun k_ => ((P2_1_ k_ ∨ w.heap.size ≤ k_) ∧ (k_ ≠ gb611 ∧ k_ ≠ gb612))) _ _ x11_30 x10_19 t627 t628 _ ?side1 A42.out).mono ?_); (case side1 => exact HO_11.out); rintro e w46 ⟨rfl, hb⟩; replace HO_11 := Aside0.mk (Kd.V_below (by (with_reducible repeat (first | apply Kd.V_alloc | apply Kd.V_drewN | apply Kd.V_drew)); exact HO_11.out) hb); replace HO_612001 := Aside0.mk (Kd.V_below (by (with_reducible repeat (first | apply Kd.V_alloc | apply Kd.V_drewN | apply Kd.V_drew)); exact HO_612001.out) hb); replace BK611 := Aside0.mk (bb BK611 hb); replace BK612 := Aside0.mk (bb BK612 hb); replace HB := bt_ HB hb; (try clear hb); obtain ⟨hcz47_0, hcz47_1, hfz47_0, hfz47_1⟩ := cf2 BK612))
           repeat (go_quiet (first | (go_at_call 128; (with_reducible refine (environref02_form.calls kj30 a2_0 (fun k_ => ((P2_1_ k_ ∨ w.heap.size ≤ k_) ∧ (k_ ≠ gb611 ∧ k_ ≠ gb612))) _ _ x11_30 x10_19 t627 t628 _ ?side1 A42.out).mono ?_); (case side1 => exact HO_11.out); rintro e w46 ⟨rfl, hb⟩; replace HO_11 := Aside0.mk (Kd.V_below (by (with_reducible repeat (first | apply Kd.V_alloc | apply Kd.V_drewN | apply Kd.V_drew)); exact HO_11.out) hb); replace HO_612001 := Aside0.mk (Kd.V_below (by (with_reducible repeat (first | apply Kd.V_alloc | apply Kd.V_drewN | apply Kd.V_drew)); exact HO_612001.out) hb); replace BK611 := Aside0.mk (bb BK611 hb); replace BK612 := Aside0.mk (bb BK612 hb); replace HB := bt_ HB hb; (try clear hb); obtain ⟨hcz47_0, hcz47_1, hfz47_0, hfz47_1⟩ := cf2 BK612)); try go_wp2_with (first | (go_at_call 128; (with_reducible refine (environref02_form.calls kj30 a2_0 (fun k_ => ((P2_1_ k_ ∨ w.heap.size ≤ k_) ∧ (k_ ≠ gb611 ∧ k_ ≠ gb612))) _ _ x11_30 x10_19 t627 t628 _ ?side1 A42.out).mono ?_); (case side1 => exact HO_11.out); rintro e w46 ⟨rfl, hb⟩; replace HO_11 := Aside0.mk (Kd.V_below (by (with_reducible repeat (first | apply Kd.V_alloc | apply Kd.V_drewN | apply Kd.V_drew)); exact HO_11.out) hb); replace HO_612001 := Aside0.mk (Kd.V_below (by (with_reducible repeat (first | apply Kd.V_alloc | apply Kd.V_drewN | apply Kd.V_drew)); exact HO_612001.out) hb); replace BK611 := Aside0.mk (bb BK611 hb); replace BK612 := Aside0.mk (bb BK612 hb); replace HB := bt_ HB hb; (try clear hb); obtain ⟨hcz47_0, hcz47_1, hfz47_0, hfz47_1⟩ := cf2 BK612)))
           refine bodyPost_ret (results_ct rfl _ _ gb612 23 #[.int .i64 t627, .int .i64 t628] (0, 0) _ rfl (by (with_reducible repeat (first | refine blk_drewN ?_ _ | refine blk_drew ?_ | refine blk_alloc ?_ _)); refine blk_put (cs := #[.int .i64 t627, .int .i64 0]) ?_ 1 _ rfl; (with_reducible repeat (first | refine blk_drewN ?_ _ | refine blk_drew ?_ | refine blk_alloc ?_ _)); refine blk_put (cs := #[.int .i64 0, .int .i64 0]) ?_ 0 _ rfl; (with_reducible repeat (first | refine blk_drewN ?_ _ | refine blk_drew ?_ | refine blk_alloc ?_ _)); exact BK612.out) Tryz.underlying23 rfl (by kernel_rfl)) rfl ?_
           exact ⟨by first | rfl | (simp [errW_none, errW_some] <;> rfl) | (simp [*, errW_none, errW_some] <;> rfl), bw HB⟩
          ·rw [if_neg c41] at H
           have c41b0 := decide_eq_false c41
           clear c41
           have HC48 := Aside0.mk H
           clear H
           obtain ⟨Ao49, co49, eo49⟩ := Kd.V_slice HO_11.out
           subst eo49
           go_upto_region 15 with (fail)
           repeat (go_quiet (fail); go_upto_region 15 with (fail))
           go_cut [101] (fun v101 wc => ∃ (kq : Nat) (x101_47 : Bool), v101 = .bool x101_47 ∧ Aside0 (environref02_Rounded.j4 kq t613 x101_47 a2_0 l2_1 a2_2 a2_3 = some (r1, r2, r3)) ∧ Aside0 (kq ≤ kj30) ∧ Aside0 (Kd.V (Kd.int .i64) 3 wc w.heap.size (fun k_ => (P2_1_ k_ ∨ w.heap.size ≤ k_) ∧ k_ ≠ gb611 ∧ k_ ≠ gb612) (.slice A2_1 l2_1.length c2_1) l2_1) ∧ Aside0 (wc.heap[gb611]? = some (.cells #[.bool a2_0, (.slice A2_1 l2_1.length c2_1), .int .i64 a2_2, .bool a2_3] 123 (0, 0))) ∧ Aside0 (wc.heap[gb612]? = some (.cells #[.int .i64 0, .int .i64 0] 23 (0, 0))) ∧ Aside0 (Below w.heap.size w wc))
           case first =>
            have H := HC48.out
            clear HC48
            by_cases c50 : a1 = 3
            ·rw [if_pos c50] at H
             have c50b0 := beq_iff_eq.mpr c50
             have c50b1 := bne_eq_false_iff_eq.mpr c50
             clear c50
             (first | rw [c50b0] | (simp only [i64_w, i32_w]; rw [c50b0]) | skip)
             have H' := Aside0.mk H
             clear H
             go_wp2
             repeat (go_quiet (fail); try go_wp2)
             go_meet
             case rel => exact ⟨_, (true), q1, H', ⟨by have := HJ4.out; have := HJ15.out; have := HJ19.out; have := HJ30.out; first | omega | exact Nat.le_refl _⟩, ⟨by (with_reducible repeat (first | apply Kd.V_alloc | apply Kd.V_drewN | apply Kd.V_drew)); exact HO_612001.out⟩, ⟨by (with_reducible repeat (first | refine blk_drewN ?_ _ | refine blk_drew ?_ | refine blk_alloc ?_ _)); exact BK611.out⟩, ⟨by (with_reducible repeat (first | refine blk_drewN ?_ _ | refine blk_drew ?_ | refine blk_alloc ?_ _)); exact BK612.out⟩, ⟨bw HB⟩⟩
            ·rw [if_neg c50] at H
             have c50b0 := beq_eq_false_iff_ne.mpr c50
             have c50b1 := bne_iff_ne.mpr c50
             (first | rw [c50b0] | (simp only [i64_w, i32_w]; rw [c50b0]) | skip)
             by_cases c51 : a1 = 2
             ·rw [if_pos c51] at H
              have c51b0 := beq_iff_eq.mpr c51
              have c51b1 := bne_eq_false_iff_eq.mpr c51
              clear c51
              by_cases c52 : a2_0 = true
              ·subst c52
               rw [if_pos rfl] at H
               by_cases c53 : a1 = 1
               ·rw [if_pos c53] at H
                have c53b0 := beq_iff_eq.mpr c53
                have c53b1 := bne_eq_false_iff_eq.mpr c53
                clear c53
                have H' := Aside0.mk H
                clear H
                have hnb54 := NB611_612.out
                have hnc54 := NB612_611.out
                have hcz55_0 : wc.cell? ⟨gb611, 0, none⟩ = some (.bool true) := (blk_cell BK611.out 0).trans rfl
                have hcz55_1 : wc.cell? ⟨gb611, 1, none⟩ = some (.slice A2_1 l2_1.length c2_1) := (blk_cell BK611.out 1).trans rfl
                have hcz55_2 : wc.cell? ⟨gb611, 2, none⟩ = some (.int .i64 a2_2) := (blk_cell BK611.out 2).trans rfl
                have hcz55_3 : wc.cell? ⟨gb611, 3, none⟩ = some (.bool a2_3) := (blk_cell BK611.out 3).trans rfl
                have hfz55_0 := blk_frozen BK611.out 0
                have hfz55_1 := blk_frozen BK611.out 1
                have hfz55_2 := blk_frozen BK611.out 2
                have hfz55_3 := blk_frozen BK611.out 3
                go_wp2
                repeat (go_quiet (fail); try go_wp2)
                go_meet
                case rel => exact ⟨_, (true), q1, H', ⟨by have := HJ4.out; have := HJ15.out; have := HJ19.out; have := HJ30.out; first | omega | exact Nat.le_refl _⟩, ⟨by (with_reducible repeat (first | apply Kd.V_alloc | apply Kd.V_drewN | apply Kd.V_drew)); exact HO_612001.out⟩, ⟨by (with_reducible repeat (first | refine blk_drewN ?_ _ | refine blk_drew ?_ | refine blk_alloc ?_ _)); exact BK611.out⟩, ⟨by (with_reducible repeat (first | refine blk_drewN ?_ _ | refine blk_drew ?_ | refine blk_alloc ?_ _)); exact BK612.out⟩, ⟨bw HB⟩⟩
               ·rw [if_neg c53] at H
                have c53b0 := beq_eq_false_iff_ne.mpr c53
                have c53b1 := bne_iff_ne.mpr c53
                have H' := Aside0.mk H
                clear H
                have hnb56 := NB611_612.out
                have hnc56 := NB612_611.out
                have hcz57_0 : wc.cell? ⟨gb611, 0, none⟩ = some (.bool true) := (blk_cell BK611.out 0).trans rfl
                have hcz57_1 : wc.cell? ⟨gb611, 1, none⟩ = some (.slice A2_1 l2_1.length c2_1) := (blk_cell BK611.out 1).trans rfl
                have hcz57_2 : wc.cell? ⟨gb611, 2, none⟩ = some (.int .i64 a2_2) := (blk_cell BK611.out 2).trans rfl
                have hcz57_3 : wc.cell? ⟨gb611, 3, none⟩ = some (.bool a2_3) := (blk_cell BK611.out 3).trans rfl
                have hfz57_0 := blk_frozen BK611.out 0
                have hfz57_1 := blk_frozen BK611.out 1
                have hfz57_2 := blk_frozen BK611.out 2
                have hfz57_3 := blk_frozen BK611.out 3
                go_wp2
                repeat (go_quiet (fail); try go_wp2)
                go_meet
                case rel => exact ⟨_, (false), q1, H', ⟨by have := HJ4.out; have := HJ15.out; have := HJ19.out; have := HJ30.out; first | omega | exact Nat.le_refl _⟩, ⟨by (with_reducible repeat (first | apply Kd.V_alloc | apply Kd.V_drewN | apply Kd.V_drew)); exact HO_612001.out⟩, ⟨by (with_reducible repeat (first | refine blk_drewN ?_ _ | refine blk_drew ?_ | refine blk_alloc ?_ _)); exact BK611.out⟩, ⟨by (with_reducible repeat (first | refine blk_drewN ?_ _ | refine blk_drew ?_ | refine blk_alloc ?_ _)); exact BK612.out⟩, ⟨bw HB⟩⟩
              ·replace c52 := Bool.eq_false_iff.mpr c52
               subst c52
               rw [if_neg (show ¬ (false = true) by decide)] at H
               have H' := Aside0.mk H
               clear H
               have hnb58 := NB611_612.out
               have hnc58 := NB612_611.out
               have hcz59_0 : wc.cell? ⟨gb611, 0, none⟩ = some (.bool false) := (blk_cell BK611.out 0).trans rfl
               have hcz59_1 : wc.cell? ⟨gb611, 1, none⟩ = some (.slice A2_1 l2_1.length c2_1) := (blk_cell BK611.out 1).trans rfl
               have hcz59_2 : wc.cell? ⟨gb611, 2, none⟩ = some (.int .i64 a2_2) := (blk_cell BK611.out 2).trans rfl
               have hcz59_3 : wc.cell? ⟨gb611, 3, none⟩ = some (.bool a2_3) := (blk_cell BK611.out 3).trans rfl
               have hfz59_0 := blk_frozen BK611.out 0
               have hfz59_1 := blk_frozen BK611.out 1
               have hfz59_2 := blk_frozen BK611.out 2
               have hfz59_3 := blk_frozen BK611.out 3
               go_wp2
               repeat (go_quiet (fail); try go_wp2)
               go_meet
               case rel => exact ⟨_, (true), q1, H', ⟨by have := HJ4.out; have := HJ15.out; have := HJ19.out; have := HJ30.out; first | omega | exact Nat.le_refl _⟩, ⟨by (with_reducible repeat (first | apply Kd.V_alloc | apply Kd.V_drewN | apply Kd.V_drew)); exact HO_612001.out⟩, ⟨by (with_reducible repeat (first | refine blk_drewN ?_ _ | refine blk_drew ?_ | refine blk_alloc ?_ _)); exact BK611.out⟩, ⟨by (with_reducible repeat (first | refine blk_drewN ?_ _ | refine blk_drew ?_ | refine blk_alloc ?_ _)); exact BK612.out⟩, ⟨bw HB⟩⟩
             ·rw [if_neg c51] at H
              have c51b0 := beq_eq_false_iff_ne.mpr c51
              have c51b1 := bne_iff_ne.mpr c51
              by_cases c60 : a1 = 1
              ·rw [if_pos c60] at H
               have c60b0 := beq_iff_eq.mpr c60
               have c60b1 := bne_eq_false_iff_eq.mpr c60
               clear c60
               have H' := Aside0.mk H
               clear H
               have hnb61 := NB611_612.out
               have hnc61 := NB612_611.out
               have hcz62_0 : wc.cell? ⟨gb611, 0, none⟩ = some (.bool a2_0) := (blk_cell BK611.out 0).trans rfl
               have hcz62_1 : wc.cell? ⟨gb611, 1, none⟩ = some (.slice A2_1 l2_1.length c2_1) := (blk_cell BK611.out 1).trans rfl
               have hcz62_2 : wc.cell? ⟨gb611, 2, none⟩ = some (.int .i64 a2_2) := (blk_cell BK611.out 2).trans rfl
               have hcz62_3 : wc.cell? ⟨gb611, 3, none⟩ = some (.bool a2_3) := (blk_cell BK611.out 3).trans rfl
               have hfz62_0 := blk_frozen BK611.out 0
               have hfz62_1 := blk_frozen BK611.out 1
               have hfz62_2 := blk_frozen BK611.out 2
               have hfz62_3 := blk_frozen BK611.out 3
               go_wp2
               repeat (go_quiet (fail); try go_wp2)
               go_meet
               case rel => exact ⟨_, (a2_0), q1, H', ⟨by have := HJ4.out; have := HJ15.out; have := HJ19.out; have := HJ30.out; first | omega | exact Nat.le_refl _⟩, ⟨by (with_reducible repeat (first | apply Kd.V_alloc | apply Kd.V_drewN | apply Kd.V_drew)); exact HO_612001.out⟩, ⟨by (with_reducible repeat (first | refine blk_drewN ?_ _ | refine blk_drew ?_ | refine blk_alloc ?_ _)); exact BK611.out⟩, ⟨by (with_reducible repeat (first | refine blk_drewN ?_ _ | refine blk_drew ?_ | refine blk_alloc ?_ _)); exact BK612.out⟩, ⟨bw HB⟩⟩
              ·rw [if_neg c60] at H
               have c60b0 := beq_eq_false_iff_ne.mpr c60
               have c60b1 := bne_iff_ne.mpr c60
               have H' := Aside0.mk H
               clear H
               go_wp2
               repeat (go_quiet (fail); try go_wp2)
               go_meet
               case rel => exact ⟨_, (false), q1, H', ⟨by have := HJ4.out; have := HJ15.out; have := HJ19.out; have := HJ30.out; first | omega | exact Nat.le_refl _⟩, ⟨by (with_reducible repeat (first | apply Kd.V_alloc | apply Kd.V_drewN | apply Kd.V_drew)); exact HO_612001.out⟩, ⟨by (with_reducible repeat (first | refine blk_drewN ?_ _ | refine blk_drew ?_ | refine blk_alloc ?_ _)); exact BK611.out⟩, ⟨by (with_reducible repeat (first | refine blk_drewN ?_ _ | refine blk_drew ?_ | refine blk_alloc ?_ _)); exact BK612.out⟩, ⟨bw HB⟩⟩
           case rest =>
            clear HC48
            try clear c13
            try clear c41
            try clear c41b0
            try clear hcz18_0
            try clear hcz18_1
            try clear hcz18_2
            try clear hcz18_3
            try clear hcz22_0
            try clear hcz22_1
            try clear hcz22_2
            try clear hcz22_3
            try clear hcz33_0
            try clear hcz33_1
            try clear hcz33_2
            try clear hcz33_3
            try clear hfz18_0
            try clear hfz18_1
            try clear hfz18_2
            try clear hfz18_3
            try clear hfz22_0
            try clear hfz22_1
            try clear hfz22_2
            try clear hfz22_3
            try clear hfz33_0
            try clear hfz33_1
            try clear hfz33_2
            try clear hfz33_3
            obtain ⟨kq, x101_47, rfl, HA, HJ47, HO_612001, BK611, BK612, HB⟩ := hcut
            cases kq with
            | zero => exact absurd HA.out (by simp [environref02_Rounded.j4])
            | succ kj47 =>
             have H := HA.out
             clear HA
             simp only [environref02_Rounded.j4] at H
             by_cases c63 : x101_47 = true
             ·subst c63
              rw [if_pos rfl] at H
              obtain ⟨y629, hy629⟩ : ∃ y_ : List Int, y_ = (([] : List Int)) := ⟨_, rfl⟩
              replace H : (environref02_Rounded.l0 kj47 t613 y629 0 a2_0 l2_1 a2_2 a2_3) = some (r1, r2, r3) := by first | (rw [hy629]; with_reducible exact H) | (have H2_ := (Option.bind_some _ _).symm.trans H; rw [hy629]; with_reducible exact H2_) | (have H2_ := (Option.bind_some _ _).symm.trans H; with_reducible exact H2_) | with_reducible exact H | (rw [hy629]; exact H) | exact H
              have Ny629 := Aside0.mk hy629
              clear hy629
              have H' := Aside0.mk H
              clear H
              go_wp2_with (first | ((with_reducible refine gate_dst (N := 102) rfl ?_); refine Kd.R_lit (Kd.int .i64) _ 3 ?hg (N := 102) ?hd (xs := ([] : List Int)) (inner := []) (ok := fun _ => True) (okp := fun _ => True) ?hr ?hp (fun _ hk => hk) trivial (Below.refl _ _) (Nat.le_refl _) (by simp) ?_; (case hd => rfl); (case hg => rfl); (case hr => first | (go_simp; done) | (go_simp; rfl)); (case hp => exact (Reps.none _ _)); intro v630 w64 ho65 hb hg_ hnew_; clear hg_ hnew_; (first | rw [← Ny629.out] at ho65 | (simp only [Int.reduceToNat] at ho65; rw [← Ny629.out] at ho65)); replace HO_612001 := Aside0.mk (Kd.V_elder' (by (with_reducible repeat (first | apply Kd.V_alloc | apply Kd.V_drewN | apply Kd.V_drew)); exact HO_612001.out) (Kd.R_base ho65) hb); have HO631 := Aside0.mk (Kd.R_lower (Kd.R_newM (M := fun k_ => (w.heap.size ≤ k_)) ho65 (below_size (bw HB)) (fun k_ h_ => h_)) (below_size (bw HB))); replace BK611 := Aside0.mk (bb BK611 hb); replace BK612 := Aside0.mk (bb BK612 hb); replace HB := bt_ HB hb; clear hb ho65))
              repeat (go_quiet (first | ((with_reducible refine gate_dst (N := 102) rfl ?_); refine Kd.R_lit (Kd.int .i64) _ 3 ?hg (N := 102) ?hd (xs := ([] : List Int)) (inner := []) (ok := fun _ => True) (okp := fun _ => True) ?hr ?hp (fun _ hk => hk) trivial (Below.refl _ _) (Nat.le_refl _) (by simp) ?_; (case hd => rfl); (case hg => rfl); (case hr => first | (go_simp; done) | (go_simp; rfl)); (case hp => exact (Reps.none _ _)); intro v630 w64 ho65 hb hg_ hnew_; clear hg_ hnew_; (first | rw [← Ny629.out] at ho65 | (simp only [Int.reduceToNat] at ho65; rw [← Ny629.out] at ho65)); replace HO_612001 := Aside0.mk (Kd.V_elder' (by (with_reducible repeat (first | apply Kd.V_alloc | apply Kd.V_drewN | apply Kd.V_drew)); exact HO_612001.out) (Kd.R_base ho65) hb); have HO631 := Aside0.mk (Kd.R_lower (Kd.R_newM (M := fun k_ => (w.heap.size ≤ k_)) ho65 (below_size (bw HB)) (fun k_ h_ => h_)) (below_size (bw HB))); replace BK611 := Aside0.mk (bb BK611 hb); replace BK612 := Aside0.mk (bb BK612 hb); replace HB := bt_ HB hb; clear hb ho65)); try go_wp2_with (first | ((with_reducible refine gate_dst (N := 102) rfl ?_); refine Kd.R_lit (Kd.int .i64) _ 3 ?hg (N := 102) ?hd (xs := ([] : List Int)) (inner := []) (ok := fun _ => True) (okp := fun _ => True) ?hr ?hp (fun _ hk => hk) trivial (Below.refl _ _) (Nat.le_refl _) (by simp) ?_; (case hd => rfl); (case hg => rfl); (case hr => first | (go_simp; done) | (go_simp; rfl)); (case hp => exact (Reps.none _ _)); intro v630 w64 ho65 hb hg_ hnew_; clear hg_ hnew_; (first | rw [← Ny629.out] at ho65 | (simp only [Int.reduceToNat] at ho65; rw [← Ny629.out] at ho65)); replace HO_612001 := Aside0.mk (Kd.V_elder' (by (with_reducible repeat (first | apply Kd.V_alloc | apply Kd.V_drewN | apply Kd.V_drew)); exact HO_612001.out) (Kd.R_base ho65) hb); have HO631 := Aside0.mk (Kd.R_lower (Kd.R_newM (M := fun k_ => (w.heap.size ≤ k_)) ho65 (below_size (bw HB)) (fun k_ h_ => h_)) (below_size (bw HB))); replace BK611 := Aside0.mk (bb BK611 hb); replace BK612 := Aside0.mk (bb BK612 hb); replace HB := bt_ HB hb; clear hb ho65)))
              go_loopg [14, 15] kj47 (fun kq v14 v15 w' => ∃ (x14_6 : List Int) (x15_6 : Int), v15 = .int .i64 x15_6 ∧ Aside0 (environref02_Rounded.l0 kq t613 x14_6 x15_6 a2_0 l2_1 a2_2 a2_3 = some (r1, r2, r3)) ∧ Aside0 (kq ≤ kj47) ∧ Aside0 (Kd.R (Kd.int .i64) 3 w' w.heap.size (fun k_ => (w.heap.size ≤ k_)) v14 x14_6) ∧ Aside0 (Kd.V (Kd.int .i64) 3 w' w.heap.size (fun k_ => (P2_1_ k_ ∨ w.heap.size ≤ k_) ∧ some k_ ≠ (v14 : Value).ownBlock ∧ k_ ≠ gb611 ∧ k_ ≠ gb612) (.slice A2_1 l2_1.length c2_1) l2_1) ∧ Aside0 (w'.heap[gb611]? = some (.cells #[.bool a2_0, (.slice A2_1 l2_1.length c2_1), .int .i64 a2_2, .bool a2_3] 123 (0, 0))) ∧ Aside0 (w'.heap[gb612]? = some (.cells #[.int .i64 0, .int .i64 0] 23 (0, 0))) ∧ Aside0 (Below w.heap.size w w'))
              case atStart => exact ⟨(y629), (0), q1, H', ⟨Nat.le_refl _⟩, ⟨by (with_reducible repeat (first | apply Kd.R_alloc | apply Kd.R_drewN | apply Kd.R_drew)); exact Kd.R_mono HO631.out (fun _ hk => hk.1)⟩, ⟨by (with_reducible repeat (first | apply Kd.V_alloc | apply Kd.V_drewN | apply Kd.V_drew)); exact Kd.V_mono HO_612001.out (fun _ hk => ⟨hk.1.1, ⟨hk.2, ⟨hk.1.2.1, hk.1.2.2⟩⟩⟩)⟩, ⟨by (with_reducible repeat (first | refine blk_drewN ?_ _ | refine blk_drew ?_ | refine blk_alloc ?_ _)); exact BK611.out⟩, ⟨by (with_reducible repeat (first | refine blk_drewN ?_ _ | refine blk_drew ?_ | refine blk_alloc ?_ _)); exact BK612.out⟩, ⟨bw HB⟩⟩
              case round =>
               clear H'
               try clear c13
               try clear c41
               try clear c41b0
               try clear c63
               try clear hcz18_0
               try clear hcz18_1
               try clear hcz18_2
               try clear hcz18_3
               try clear hcz22_0
               try clear hcz22_1
               try clear hcz22_2
               try clear hcz22_3
               try clear hcz33_0
               try clear hcz33_1
               try clear hcz33_2
               try clear hcz33_3
               try clear hfz18_0
               try clear hfz18_1
               try clear hfz18_2
               try clear hfz18_3
               try clear hfz22_0
               try clear hfz22_1
               try clear hfz22_2
               try clear hfz22_3
               try clear hfz33_0
               try clear hfz33_1
               try clear hfz33_2
               try clear hfz33_3
               obtain ⟨x14_6, x15_6, rfl, HA, HK6, HO_14, HO_612001, BK611, BK612, HB⟩ := hrel
               cases gk with
               | zero => exact absurd HA.out (by simp [environref02_Rounded.l0])
               | succ k6 =>
                have H := HA.out
                clear HA
                simp only [environref02_Rounded.l0] at H
                by_cases c66 : x15_6 < t613
                ·rw [if_pos c66] at H
                 have c66b0 := decide_eq_true c66
                 clear c66
                 by_cases c67 : x14_6.length < 17592186044416
                 ·rw [if_pos c67] at H
                  have LMc67 := Aside0.mk c67
                  clear c67
                  obtain ⟨y632, hy632⟩ : ∃ y_ : List Int, y_ = (x14_6 ++ [9]) := ⟨_, rfl⟩
                  replace H : (environref02_Rounded.l0 k6 t613 y632 (wrap64 (x15_6 + 1)) a2_0 l2_1 a2_2 a2_3) = some (r1, r2, r3) := by first | (rw [hy632]; with_reducible exact H) | (have H2_ := (Option.bind_some _ _).symm.trans H; rw [hy632]; with_reducible exact H2_) | (have H2_ := (Option.bind_some _ _).symm.trans H; with_reducible exact H2_) | with_reducible exact H | (rw [hy632]; exact H) | exact H
                  have Ny632 := Aside0.mk hy632
                  clear hy632
                  have H' := Aside0.mk H
                  clear H
                  go_wp2_with (first | ((with_reducible refine gate_builtin (b := .append) (xs := #[.tmp 108, .tmp 109]) rfl ?_); at_builtin; refine Kd.R_append (Kd.int .i64) (w0 := w) w.heap.size rfl (.tmp 108) (.tmp 109) 68 3 (.int .i64 0) 8 rfl Tryz.underlying68 info3 rfl (by decide) (by omega) u14 x14_6 9 [.int .i64 9] (fun k_ => (w.heap.size ≤ k_)) (fun _ => False) rfl rfl ?aP (fun _ hk => hk.elim) ?aF ?aO ?aB ?aS ?aL ?_; (case aP => exact rfl); (case aB => exact (bw HB)); (case aF => exact (fun k_ hk => (Nat.le_trans (below_size (bw HB)) hk))); (case aO => exact (by (with_reducible repeat (first | apply Kd.R_alloc | apply Kd.R_drewN | apply Kd.R_drew)); exact HO_14.out)); (case aS => exact (below_size (bw HB))); (case aL => have := LMc67.out; omega); intro v633 w68 ho hb hg hat; rw [← Ny632.out] at ho; replace HO_612001 := Aside0.mk (Kd.V_afterv (ok := (fun k_ => (P2_1_ k_ ∨ w.heap.size ≤ k_) ∧ k_ ≠ gb611 ∧ k_ ≠ gb612)) (by (with_reducible repeat (first | apply Kd.V_alloc | apply Kd.V_drewN | apply Kd.V_drew)); exact Kd.V_mono HO_612001.out (fun _ hk => ⟨⟨hk.1, ⟨hk.2.2.1, hk.2.2.2⟩⟩, hk.2.1⟩)) hg hat); replace BK611 := Aside0.mk (blk_grown (g := gb611) (o := .cells #[.bool a2_0, .slice A2_1 l2_1.length c2_1, .int .i64 a2_2, .bool a2_3] 123 (0, 0)) (bk BK611) hg (Kd.R_ne HO_14.out BK611.out (by decide))); replace BK612 := Aside0.mk (blk_grown (g := gb612) (o := .cells #[.int .i64 0, .int .i64 0] 23 (0, 0)) (bk BK612) hg (Kd.R_ne HO_14.out BK612.out (by decide))); replace HB := Aside0.mk (hb); have HO634 := Aside0.mk (ho); clear HO_14; clear ho hb hg hat))
                  repeat (go_quiet (first | ((with_reducible refine gate_builtin (b := .append) (xs := #[.tmp 108, .tmp 109]) rfl ?_); at_builtin; refine Kd.R_append (Kd.int .i64) (w0 := w) w.heap.size rfl (.tmp 108) (.tmp 109) 68 3 (.int .i64 0) 8 rfl Tryz.underlying68 info3 rfl (by decide) (by omega) u14 x14_6 9 [.int .i64 9] (fun k_ => (w.heap.size ≤ k_)) (fun _ => False) rfl rfl ?aP (fun _ hk => hk.elim) ?aF ?aO ?aB ?aS ?aL ?_; (case aP => exact rfl); (case aB => exact (bw HB)); (case aF => exact (fun k_ hk => (Nat.le_trans (below_size (bw HB)) hk))); (case aO => exact (by (with_reducible repeat (first | apply Kd.R_alloc | apply Kd.R_drewN | apply Kd.R_drew)); exact HO_14.out)); (case aS => exact (below_size (bw HB))); (case aL => have := LMc67.out; omega); intro v633 w68 ho hb hg hat; rw [← Ny632.out] at ho; replace HO_612001 := Aside0.mk (Kd.V_afterv (ok := (fun k_ => (P2_1_ k_ ∨ w.heap.size ≤ k_) ∧ k_ ≠ gb611 ∧ k_ ≠ gb612)) (by (with_reducible repeat (first | apply Kd.V_alloc | apply Kd.V_drewN | apply Kd.V_drew)); exact Kd.V_mono HO_612001.out (fun _ hk => ⟨⟨hk.1, ⟨hk.2.2.1, hk.2.2.2⟩⟩, hk.2.1⟩)) hg hat); replace BK611 := Aside0.mk (blk_grown (g := gb611) (o := .cells #[.bool a2_0, .slice A2_1 l2_1.length c2_1, .int .i64 a2_2, .bool a2_3] 123 (0, 0)) (bk BK611) hg (Kd.R_ne HO_14.out BK611.out (by decide))); replace BK612 := Aside0.mk (blk_grown (g := gb612) (o := .cells #[.int .i64 0, .int .i64 0] 23 (0, 0)) (bk BK612) hg (Kd.R_ne HO_14.out BK612.out (by decide))); replace HB := Aside0.mk (hb); have HO634 := Aside0.mk (ho); clear HO_14; clear ho hb hg hat)); try go_wp2_with (first | ((with_reducible refine gate_builtin (b := .append) (xs := #[.tmp 108, .tmp 109]) rfl ?_); at_builtin; refine Kd.R_append (Kd.int .i64) (w0 := w) w.heap.size rfl (.tmp 108) (.tmp 109) 68 3 (.int .i64 0) 8 rfl Tryz.underlying68 info3 rfl (by decide) (by omega) u14 x14_6 9 [.int .i64 9] (fun k_ => (w.heap.size ≤ k_)) (fun _ => False) rfl rfl ?aP (fun _ hk => hk.elim) ?aF ?aO ?aB ?aS ?aL ?_; (case aP => exact rfl); (case aB => exact (bw HB)); (case aF => exact (fun k_ hk => (Nat.le_trans (below_size (bw HB)) hk))); (case aO => exact (by (with_reducible repeat (first | apply Kd.R_alloc | apply Kd.R_drewN | apply Kd.R_drew)); exact HO_14.out)); (case aS => exact (below_size (bw HB))); (case aL => have := LMc67.out; omega); intro v633 w68 ho hb hg hat; rw [← Ny632.out] at ho; replace HO_612001 := Aside0.mk (Kd.V_afterv (ok := (fun k_ => (P2_1_ k_ ∨ w.heap.size ≤ k_) ∧ k_ ≠ gb611 ∧ k_ ≠ gb612)) (by (with_reducible repeat (first | apply Kd.V_alloc | apply Kd.V_drewN | apply Kd.V_drew)); exact Kd.V_mono HO_612001.out (fun _ hk => ⟨⟨hk.1, ⟨hk.2.2.1, hk.2.2.2⟩⟩, hk.2.1⟩)) hg hat); replace BK611 := Aside0.mk (blk_grown (g := gb611) (o := .cells #[.bool a2_0, .slice A2_1 l2_1.length c2_1, .int .i64 a2_2, .bool a2_3] 123 (0, 0)) (bk BK611) hg (Kd.R_ne HO_14.out BK611.out (by decide))); replace BK612 := Aside0.mk (blk_grown (g := gb612) (o := .cells #[.int .i64 0, .int .i64 0] 23 (0, 0)) (bk BK612) hg (Kd.R_ne HO_14.out BK612.out (by decide))); replace HB := Aside0.mk (hb); have HO634 := Aside0.mk (ho); clear HO_14; clear ho hb hg hat)))
                  go_roundg k6
                  case measure => have := HJ4.out; have := HJ15.out; have := HJ19.out; have := HJ30.out; have := HJ47.out; have := HK6.out; omega
                  case rel => exact ⟨(y632), (wrap64 (x15_6 + 1)), q1, H', ⟨by have := HJ4.out; have := HJ15.out; have := HJ19.out; have := HJ30.out; have := HJ47.out; have := HK6.out; omega⟩, ⟨by (with_reducible repeat (first | apply Kd.R_alloc | apply Kd.R_drewN | apply Kd.R_drew)); exact HO634.out⟩, ⟨by (with_reducible repeat (first | apply Kd.V_alloc | apply Kd.V_drewN | apply Kd.V_drew)); exact Kd.V_mono HO_612001.out (fun _ hk => ⟨hk.1.1, ⟨hk.2, ⟨hk.1.2.1, hk.1.2.2⟩⟩⟩)⟩, ⟨by (with_reducible repeat (first | refine blk_drewN ?_ _ | refine blk_drew ?_ | refine blk_alloc ?_ _)); exact BK611.out⟩, ⟨by (with_reducible repeat (first | refine blk_drewN ?_ _ | refine blk_drew ?_ | refine blk_alloc ?_ _)); exact BK612.out⟩, ⟨bw HB⟩⟩
                 ·rw [if_neg c67] at H
                  exact absurd H (by simp)
                ·rw [if_neg c66] at H
                 have c66b0 := decide_eq_false c66
                 clear c66
                 replace H := Option.bind_eq_some_iff.mp H
                 obtain ⟨⟨t635, t636⟩, A690, H⟩ := H
                 try dsimp only at H
                 have A69 := Aside0.mk A690
                 clear A690
                 simp only [Option.some.injEq, Prod.mk.injEq] at H
                 obtain ⟨rfl, rfl, rfl⟩ := H
                 have hnb70 := NB611_612.out
                 have hnc70 := NB612_611.out
                 have hcz71_0 : wr.cell? ⟨gb611, 0, none⟩ = some (.bool a2_0) := (blk_cell BK611.out 0).trans rfl
                 have hcz71_1 : wr.cell? ⟨gb611, 1, none⟩ = some (.slice A2_1 l2_1.length c2_1) := (blk_cell BK611.out 1).trans rfl
                 have hcz71_2 : wr.cell? ⟨gb611, 2, none⟩ = some (.int .i64 a2_2) := (blk_cell BK611.out 2).trans rfl
                 have hcz71_3 : wr.cell? ⟨gb611, 3, none⟩ = some (.bool a2_3) := (blk_cell BK611.out 3).trans rfl
                 have hfz71_0 := blk_frozen BK611.out 0
                 have hfz71_1 := blk_frozen BK611.out 1
                 have hfz71_2 := blk_frozen BK611.out 2
                 have hfz71_3 := blk_frozen BK611.out 3
                 obtain ⟨Ao72, co72, eo72⟩ := Kd.R_slice HO_14.out
                 subst eo72
                 go_wp2_with (first | (go_at_call 128; (with_reducible refine (environref02_form.calls k6 a2_0 (fun k_ => some k_ = (.slice Ao72 x14_6.length co72 : Value).ownBlock) _ _ x14_6 400 t635 t636 _ ?side1 A69.out).mono ?_); (case side1 => exact Kd.R_V (Kd.R_tight rfl (Kd.R_types (Kd.R_types (HO_14.out) BK611.out (by decide)) BK612.out (by decide)))); rintro e w73 ⟨rfl, hb⟩; replace HO_14 := Aside0.mk (Kd.R_below (by (with_reducible repeat (first | apply Kd.R_alloc | apply Kd.R_drewN | apply Kd.R_drew)); exact HO_14.out) hb); replace HO_612001 := Aside0.mk (Kd.V_below (by (with_reducible repeat (first | apply Kd.V_alloc | apply Kd.V_drewN | apply Kd.V_drew)); exact HO_612001.out) hb); replace BK611 := Aside0.mk (bb BK611 hb); replace BK612 := Aside0.mk (bb BK612 hb); replace HB := bt_ HB hb; (try clear hb); obtain ⟨hcz74_0, hcz74_1, hfz74_0, hfz74_1⟩ := cf2 BK612))
                 repeat (go_quiet (first | (go_at_call 128; (with_reducible refine (environref02_form.calls k6 a2_0 (fun k_ => some k_ = (.slice Ao72 x14_6.length co72 : Value).ownBlock) _ _ x14_6 400 t635 t636 _ ?side1 A69.out).mono ?_); (case side1 => exact Kd.R_V (Kd.R_tight rfl (Kd.R_types (Kd.R_types (HO_14.out) BK611.out (by decide)) BK612.out (by decide)))); rintro e w73 ⟨rfl, hb⟩; replace HO_14 := Aside0.mk (Kd.R_below (by (with_reducible repeat (first | apply Kd.R_alloc | apply Kd.R_drewN | apply Kd.R_drew)); exact HO_14.out) hb); replace HO_612001 := Aside0.mk (Kd.V_below (by (with_reducible repeat (first | apply Kd.V_alloc | apply Kd.V_drewN | apply Kd.V_drew)); exact HO_612001.out) hb); replace BK611 := Aside0.mk (bb BK611 hb); replace BK612 := Aside0.mk (bb BK612 hb); replace HB := bt_ HB hb; (try clear hb); obtain ⟨hcz74_0, hcz74_1, hfz74_0, hfz74_1⟩ := cf2 BK612)); try go_wp2_with (first | (go_at_call 128; (with_reducible refine (environref02_form.calls k6 a2_0 (fun k_ => some k_ = (.slice Ao72 x14_6.length co72 : Value).ownBlock) _ _ x14_6 400 t635 t636 _ ?side1 A69.out).mono ?_); (case side1 => exact Kd.R_V (Kd.R_tight rfl (Kd.R_types (Kd.R_types (HO_14.out) BK611.out (by decide)) BK612.out (by decide)))); rintro e w73 ⟨rfl, hb⟩; replace HO_14 := Aside0.mk (Kd.R_below (by (with_reducible repeat (first | apply Kd.R_alloc | apply Kd.R_drewN | apply Kd.R_drew)); exact HO_14.out) hb); replace HO_612001 := Aside0.mk (Kd.V_below (by (with_reducible repeat (first | apply Kd.V_alloc | apply Kd.V_drewN | apply Kd.V_drew)); exact HO_612001.out) hb); replace BK611 := Aside0.mk (bb BK611 hb); replace BK612 := Aside0.mk (bb BK612 hb); replace HB := bt_ HB hb; (try clear hb); obtain ⟨hcz74_0, hcz74_1, hfz74_0, hfz74_1⟩ := cf2 BK612)))
                 refine bodyPost_ret (results_ct rfl _ _ gb612 23 #[.int .i64 t635, .int .i64 t636] (0, 0) _ rfl (by (with_reducible repeat (first | refine blk_drewN ?_ _ | refine blk_drew ?_ | refine blk_alloc ?_ _)); refine blk_put (cs := #[.int .i64 t635, .int .i64 0]) ?_ 1 _ rfl; (with_reducible repeat (first | refine blk_drewN ?_ _ | refine blk_drew ?_ | refine blk_alloc ?_ _)); refine blk_put (cs := #[.int .i64 0, .int .i64 0]) ?_ 0 _ rfl; (with_reducible repeat (first | refine blk_drewN ?_ _ | refine blk_drew ?_ | refine blk_alloc ?_ _)); exact BK612.out) Tryz.underlying23 rfl (by kernel_rfl)) rfl ?_
                 exact ⟨by first | rfl | (simp [errW_none, errW_some] <;> rfl) | (simp [*, errW_none, errW_some] <;> rfl), bw HB⟩
             ·replace c63 := Bool.eq_false_iff.mpr c63
              subst c63
              rw [if_neg (show ¬ (false = true) by decide)] at H
              simp only [Option.some.injEq, Prod.mk.injEq] at H
              obtain ⟨rfl, rfl, rfl⟩ := H
              have hnb75 := NB612_611.out
              have hnc75 := NB611_612.out
              have hcz76_0 : wc.cell? ⟨gb612, 0, none⟩ = some (.int .i64 0) := (blk_cell BK612.out 0).trans rfl
              have hcz76_1 : wc.cell? ⟨gb612, 1, none⟩ = some (.int .i64 0) := (blk_cell BK612.out 1).trans rfl
              have hfz76_0 := blk_frozen BK612.out 0
              have hfz76_1 := blk_frozen BK612.out 1
              go_wp2
              repeat (go_quiet (fail); try go_wp2)
              refine bodyPost_ret (results_ct rfl _ _ gb612 23 #[.int .i64 0, .int .i64 0] (0, 0) _ rfl (by (with_reducible repeat (first | refine blk_drewN ?_ _ | refine blk_drew ?_ | refine blk_alloc ?_ _)); refine blk_put (cs := #[.int .i64 0, .int .i64 0]) ?_ 1 _ rfl; (with_reducible repeat (first | refine blk_drewN ?_ _ | refine blk_drew ?_ | refine blk_alloc ?_ _)); refine blk_put (cs := #[.int .i64 0, .int .i64 0]) ?_ 0 _ rfl; (with_reducible repeat (first | refine blk_drewN ?_ _ | refine blk_drew ?_ | refine blk_alloc ?_ _)); exact BK612.out) Tryz.underlying23 rfl (by kernel_rfl)) rfl ?_
              exact ⟨by first | rfl | (simp [errW_none, errW_some] <;> rfl) | (simp [*, errW_none, errW_some] <;> rfl), bw HB⟩
end Go.Proofs.YtckbmniiecbalaaGreatDoor.PT
