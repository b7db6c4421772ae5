-- written by a program of this session out of the kit's print (its words and its form)
import Derived.Test.YtckbmniiecbalaaGreatDoorPTgSa
import Derived.Test.YtckbmniiecbalaaGreatDoorPTgSi
import Derived.Test.YtckbmniiecbalaaGreatDoorPTgSj
import Derived.Test.YtckbmniiecbalaaGreatDoorPTgSk
import Derived.Test.YtckbmniiecbalaaGreatDoorPTgTh
import Derived.Test.YtckbmniiecbalaaGreatDoorPTgTi
import Derived.Test.YtckbmniiecbalaaGreatDoorPTgTl
import Derived.Test.YtckbmniiecbalaaGreatDoorPTgTm
import Derived.Test.YtckbmniiecbalaaGreatDoorPTsq
import Derived.Test.YtckbmniiecbalaaGreatDoorPTx0
namespace Go.Proofs.YtckbmniiecbalaaGreatDoor.PT
open Go.RowKit Go.Proofs.YtckbmniiecbalaaGreatDoorW.PrintWords Go.Proofs.YtckbmniiecbalaaGreatDoorW.PrintLast Go.Proofs.YtckbmniiecbalaaGreatDoorW.PrintMore
attribute [local go_sem] max2_int min2_int max_two min_two max_three min_three max_four min_four   -- for this text's walks alone
set_option linter.unusedVariables false
set_option linter.unusedSimpArgs false

attribute [local go_sem high] eqA23
/-! ### environlaw03_TextsReads: function 5 -/
mutual
def environlaw03_TextsReads.j0 : Nat → Int → ByteArray → Bool → Option (Bool)
 | 0, _, _, _ => none
 | k + 1, x0, x1, x44 => if x44 = true then (some false) else ((texts_ReadReal.f k x0 x1).bind fun bt683 => ((environref03_ReadReal.f k x0 x1).bind fun bt688 => (if (!(bt683.1 == bt688.1) || (!(bt683.2.1 == bt688.2.1))) = true then (environlaw03_TextsReads.j1 k x0 x1 true) else (if bt683.2.2.1 = bt688.2.2.1 then (environlaw03_TextsReads.j1 k x0 x1 (bt683.2.2.2 != bt688.2.2.2)) else (environlaw03_TextsReads.j1 k x0 x1 true)))))
def environlaw03_TextsReads.j1 : Nat → Int → ByteArray → Bool → Option (Bool)
 | 0, _, _, _ => none
 | k + 1, x0, x1, x71 => if x71 = true then (some false) else ((texts_ReadWord.f k x0 x1).bind fun bt693 => ((environref03_ReadWord.f k x0 x1).bind fun bt696 => (if bt693.1 = bt696.1 then (if bt693.2.1 = bt696.2.1 then (some (bt693.2.2 == bt696.2.2)) else (some false)) else (some false))))
end
def environlaw03_TextsReads.f (k : Nat) (a0 : Int) (a1 : ByteArray) : Option (Bool) := (environlaw03_awake.f k).bind fun t676 => (if t676 = true then (if (a1.size : Int) > 300 then (some true) else ((texts_ReadInt.f k a0 a1).bind fun bt677 => ((environref03_ReadInt.f k a0 a1).bind fun bt680 => (if bt677.1 = bt680.1 then (if bt677.2.1 = bt680.2.1 then (environlaw03_TextsReads.j0 k a0 a1 (bt677.2.2 != bt680.2.2)) else (environlaw03_TextsReads.j0 k a0 a1 true)) else (environlaw03_TextsReads.j0 k a0 a1 true))))) else (some false))
theorem environlaw03_TextsReads.mono_l : ∀ k, (∀ y0 y1 y2, LeO (environlaw03_TextsReads.j0 k y0 y1 y2) (environlaw03_TextsReads.j0 (k + 1) y0 y1 y2)) ∧ (∀ y0 y1 y2, LeO (environlaw03_TextsReads.j1 k y0 y1 y2) (environlaw03_TextsReads.j1 (k + 1) y0 y1 y2))
 | 0 => ⟨fun _ _ _ r h => by simp [environlaw03_TextsReads.j0] at h, fun _ _ _ r h => by simp [environlaw03_TextsReads.j1] at h⟩
 | k + 1 => by
  obtain ⟨ih0, ih1⟩ := environlaw03_TextsReads.mono_l k
  refine ⟨?_, ?_⟩ <;> intros <;> (first | unfold environlaw03_TextsReads.j0 | unfold environlaw03_TextsReads.j1) <;> (repeat' first
   | (with_reducible exact LeO.refl _)
   | exact ih0 _ _ _
   | exact ih1 _ _ _
   | exact environlaw03_awake.mono _
   | exact environref03_ReadInt.mono _ _ _
   | exact environref03_ReadReal.mono _ _ _
   | exact environref03_ReadWord.mono _ _ _
   | exact texts_ReadInt.mono _ _ _
   | exact texts_ReadReal.mono _ _ _
   | exact texts_ReadWord.mono _ _ _
   | exact LeO.none _
   | refine LeO.ite ?_ ?_
   | refine LeO.bind ?_ (fun _ => ?_))
theorem environlaw03_TextsReads.mono : ∀ a0 a1 k, LeO (environlaw03_TextsReads.f k a0 a1) (environlaw03_TextsReads.f (k + 1) a0 a1) := by
 intro a0 a1 k
 obtain ⟨ih0, ih1⟩ := environlaw03_TextsReads.mono_l k
 unfold environlaw03_TextsReads.f
 repeat' first
   | (with_reducible exact LeO.refl _)
   | exact ih0 _ _ _
   | exact ih1 _ _ _
   | exact environlaw03_awake.mono _
   | exact environref03_ReadInt.mono _ _ _
   | exact environref03_ReadReal.mono _ _ _
   | exact environref03_ReadWord.mono _ _ _
   | exact texts_ReadInt.mono _ _ _
   | exact texts_ReadReal.mono _ _ _
   | exact texts_ReadWord.mono _ _ _
   | exact LeO.none _
   | refine LeO.ite ?_ ?_
   | refine LeO.bind ?_ (fun _ => ?_)
set_option maxHeartbeats 8000000 in
set_option maxRecDepth 100000 in
theorem environlaw03_TextsReads.calls (k : Nat) (a0 : Int) (a1 : ByteArray) (r : Bool) (w : World) (hE : Env w) (h : environlaw03_TextsReads.f k a0 a1 = some r) :
  Calls Tryz.prog 5 #[.int .i64 a0, .string a1] w fun e w' => e = .returned (.bool r) ∧ Below w.heap.size w w' := by
 have HE_ := Aside0.mk hE
 clear hE
 have hu23 := Tryz.underlying23
 have HB := Aside0.mk (Below.refl w.heap.size w)
 have H : ((environlaw03_awake.f k).bind fun t676 => (if t676 = true then (if (a1.size : Int) > 300 then (some true) else ((texts_ReadInt.f k a0 a1).bind fun bt677 => ((environref03_ReadInt.f k a0 a1).bind fun bt680 => (if bt677.1 = bt680.1 then (if bt677.2.1 = bt680.2.1 then (environlaw03_TextsReads.j0 k a0 a1 (bt677.2.2 != bt680.2.2)) else (environlaw03_TextsReads.j0 k a0 a1 true)) else (environlaw03_TextsReads.j0 k a0 a1 true))))) else (some false))) = some r := h
 clear h
 replace H := Option.bind_eq_some_iff.mp H
 obtain ⟨t676, A30, H⟩ := H
 try dsimp only at H
 have A3 := Aside0.mk A30
 clear A30
 by_cases c4 : t676 = true
 ·subst c4
  rw [if_pos rfl] at H
  by_cases c5 : (a1.size : Int) > 300
  ·rw [if_pos c5] at H
   have c5b0 := decide_eq_true c5
   have c5b1 : decide (300 < a1.size) = true := decide_eq_true (by omega)
   clear c5
   obtain rfl := Option.some.inj H
   go_enter Tryz.func5, Tryz.ntmps5
   go_wp2_with (first | (refine gc 7 ?_; refine gl (some 13) Tryz.func7 #[] ?_; (with_reducible refine (environlaw03_awake.calls k  true _ (env_at HE_.out (bw HB)) A3.out).mono ?_); rintro e w6 ⟨rfl, hb⟩; refine ⟨_, rfl, ?_⟩; replace HB := bt_ HB hb; (try clear hb)))
   go_ret
   exact ⟨by first | rfl | (simp [errW_none, errW_some] <;> rfl) | (simp [*, errW_none, errW_some] <;> rfl), bw HB⟩
  ·rw [if_neg c5] at H
   have c5b0 := decide_eq_false c5
   have c5b1 : decide (300 < a1.size) = false := decide_eq_false (by omega)
   clear c5
   replace H := Option.bind_eq_some_iff.mp H
   obtain ⟨⟨t677, t678, t679⟩, A70, H⟩ := H
   try dsimp only at H
   have A7 := Aside0.mk A70
   clear A70
   replace H := Option.bind_eq_some_iff.mp H
   obtain ⟨⟨t680, t681, t682⟩, A80, H⟩ := H
   try dsimp only at H
   have A8 := Aside0.mk A80
   clear A80
   have HC9 := Aside0.mk H
   clear H
   go_enter Tryz.func5, Tryz.ntmps5
   go_upto_region 7 with (first | (refine gc 7 ?_; refine gl (some 13) Tryz.func7 #[] ?_; (with_reducible refine (environlaw03_awake.calls k  true _ (env_at HE_.out (bw HB)) A3.out).mono ?_); rintro e w10 ⟨rfl, hb⟩; refine ⟨_, rfl, ?_⟩; replace HB := bt_ HB hb; (try clear hb)) | (refine gc 18 ?_; refine gl (some 21) Tryz.func18 #[.int .i64 a0, .string a1] ?_; (with_reducible refine (texts_ReadInt.calls k a0 a1 t677 t678 t679 _ A7.out).mono ?_); rintro e w11 ⟨rfl, hb⟩; refine ⟨_, rfl, ?_⟩; replace HB := bt_ HB hb; (try clear hb)) | (refine gc 19 ?_; refine gl (some 28) Tryz.func19 #[.int .i64 a0, .string a1] ?_; (with_reducible refine (environref03_ReadInt.calls k a0 a1 t680 t681 t682 _ A8.out).mono ?_); rintro e w12 ⟨rfl, hb⟩; refine ⟨_, rfl, ?_⟩; replace HB := bt_ HB hb; (try clear hb)))
   (try simp only [sx])
   go_cut [44] (fun v44 wc => ∃ (kq : Nat) (x44_8 : Bool), v44 = .bool x44_8 ∧ Aside0 (environlaw03_TextsReads.j0 kq a0 a1 x44_8 = some r) ∧ Aside0 (kq ≤ k) ∧ Aside0 (Below w.heap.size w wc))
   case first =>
    have H := HC9.out
    clear HC9
    by_cases c13 : t677 = t680
    ·rw [if_pos c13] at H
     have c13b0 := beq_iff_eq.mpr c13
     have c13b1 := bne_eq_false_iff_eq.mpr c13
     clear c13
     (first | rw [c13b0] | (simp only [i64_w, i32_w]; rw [c13b0]) | skip)
     by_cases c14 : t678 = t681
     ·rw [if_pos c14] at H
      have c14b0 := beq_iff_eq.mpr c14
      have c14b1 := bne_eq_false_iff_eq.mpr c14
      clear c14
      have H' := Aside0.mk H
      clear H
      go_wp2
      go_meet
      case rel => exact ⟨_, ((t679 != t682)), q1, H', ko, ⟨bw HB⟩⟩
     ·rw [if_neg c14] at H
      have c14b0 := beq_eq_false_iff_ne.mpr c14
      have c14b1 := bne_iff_ne.mpr c14
      have H' := Aside0.mk H
      clear H
      go_wp2
      go_meet
      case rel => exact ⟨_, (true), q1, H', ko, ⟨bw HB⟩⟩
    ·rw [if_neg c13] at H
     have c13b0 := beq_eq_false_iff_ne.mpr c13
     have c13b1 := bne_iff_ne.mpr c13
     (first | rw [c13b0] | (simp only [i64_w, i32_w]; rw [c13b0]) | skip)
     have H' := Aside0.mk H
     clear H
     go_wp2
     go_meet
     case rel => exact ⟨_, (true), q1, H', ko, ⟨bw HB⟩⟩
   case rest =>
    clear HC9
    try clear c4
    try clear c5
    try clear c5b0
    try clear c5b1
    obtain ⟨kq, x44_8, rfl, HA, HJ8, HB⟩ := hcut
    cases kq with
    | zero => exact absurd HA.out (by simp [environlaw03_TextsReads.j0])
    | succ kj8 =>
     have H := HA.out
     clear HA
     simp only [environlaw03_TextsReads.j0] at H
     by_cases c15 : x44_8 = true
     ·subst c15
      rw [if_pos rfl] at H
      obtain rfl := Option.some.inj H
      go_wp2
      go_ret
      exact ⟨by first | rfl | (simp [errW_none, errW_some] <;> rfl) | (simp [*, errW_none, errW_some] <;> rfl), bw HB⟩
     ·replace c15 := Bool.eq_false_iff.mpr c15
      subst c15
      rw [if_neg (show ¬ (false = true) by decide)] at H
      replace H := Option.bind_eq_some_iff.mp H
      obtain ⟨⟨t683, t684, t685, t686⟩, A160, H⟩ := H
      try dsimp only at H
      have A16 := Aside0.mk A160
      clear A160
      replace H := Option.bind_eq_some_iff.mp H
      obtain ⟨⟨t688, t689, t690, t691⟩, A170, H⟩ := H
      try dsimp only at H
      have A17 := Aside0.mk A170
      clear A170
      have HC18 := Aside0.mk H
      clear H
      go_upto_region 11 with (first | (refine gc 20 ?_; refine gl (some 48) Tryz.func20 #[.int .i64 a0, .string a1] ?_; (with_reducible refine (texts_ReadReal.calls kj8 a0 a1 t683 t684 t685 t686 _ A16.out).mono ?_); rintro e w19 ⟨rfl, hb⟩; refine ⟨_, rfl, ?_⟩; replace HB := bt_ HB hb; (try clear hb)) | ((with_reducible refine gate_dst (N := 11) rfl ?_); refine box_event ?hg (N := 11) ?hd (cs := #[.int .i64 0, .int .i64 0]) (t := 23) ?hr ?_; (case hd => rfl); (case hg => rfl); (case hr => first | (go_simp; done) | (go_simp; rfl)); intro gb687 hg w20 hbox hb; have BK687 := Aside0.mk (hbox); have GW687 := Aside0.mk (bs HB hg : w.heap.size ≤ gb687); replace HB := bt_ HB hb; clear hb hbox hg; obtain ⟨hcz21_0, hcz21_1, hfz21_0, hfz21_1⟩ := cf2 BK687) | (refine gc 21 ?_; refine gl (some 55) Tryz.func21 #[.int .i64 a0, .string a1] ?_; (with_reducible refine (environref03_ReadReal.calls kj8 a0 a1 t688 t689 t690 t691 _ A17.out).mono ?_); rintro e w22 ⟨rfl, hb⟩; refine ⟨_, rfl, ?_⟩; replace BK687 := Aside0.mk (blk_below (g := gb687) (o := .cells #[.int .i64 t683, .int .i64 t684] 23 (0, 0)) (by (with_reducible repeat (first | refine blk_drewN ?_ _ | refine blk_drew ?_ | refine blk_alloc ?_ _)); refine blk_put (cs := #[.int .i64 t683, .int .i64 0]) ?_ 1 _ rfl; (with_reducible repeat (first | refine blk_drewN ?_ _ | refine blk_drew ?_ | refine blk_alloc ?_ _)); refine blk_put (cs := #[.int .i64 0, .int .i64 0]) ?_ 0 _ rfl; (with_reducible repeat (first | refine blk_drewN ?_ _ | refine blk_drew ?_ | refine blk_alloc ?_ _)); exact BK687.out) hb); replace HB := bt_ HB hb; (try clear hb)) | ((with_reducible refine gate_dst (N := 12) rfl ?_); refine box_event ?hg (N := 12) ?hd (cs := #[.int .i64 0, .int .i64 0]) (t := 23) ?hr ?_; (case hd => rfl); (case hg => rfl); (case hr => first | (go_simp; done) | (go_simp; rfl)); intro gb692 hg w23 hbox hb; have BK692 := Aside0.mk (hbox); have GW692 := Aside0.mk (bs HB hg : w.heap.size ≤ gb692); replace HB := bt_ HB hb; have NB687_692 := Aside0.mk (nl BK687 hg); have NB692_687 := Aside0.mk (ng BK687 hg); replace BK687 := Aside0.mk (bb BK687 hb); clear hb hbox hg; have hnb24 := NB692_687.out; have hnc24 := NB687_692.out; obtain ⟨hcz25_0, hcz25_1, hfz25_0, hfz25_1⟩ := cf2 BK692))
      (try simp only [sx])
      go_cut [71] (fun v71 wc => ∃ (kq : Nat) (x71_17 : Bool), v71 = .bool x71_17 ∧ Aside0 (environlaw03_TextsReads.j1 kq a0 a1 x71_17 = some r) ∧ Aside0 (kq ≤ kj8) ∧ Aside0 (wc.heap[gb687]? = some (.cells #[.int .i64 t683, .int .i64 t684] 23 (0, 0))) ∧ Aside0 (wc.heap[gb692]? = some (.cells #[.int .i64 t688, .int .i64 t689] 23 (0, 0))) ∧ Aside0 (Below w.heap.size w wc))
      case first =>
       have H := HC18.out
       clear HC18
       by_cases c26 : (!(t683 == t688) || (!(t684 == t689))) = true
       ·rw [if_pos c26] at H
        have c26b0 : (!(t683 == t688) || (!(t684 == t689))) = true := c26
        clear c26
        (first | rw [c26b0] | (simp only [i64_w, i32_w]; rw [c26b0]) | skip)
        have H' := Aside0.mk H
        clear H
        have hnb27 := NB687_692.out
        have hnc27 := NB692_687.out
        obtain ⟨hcz28_0, hcz28_1, hfz28_0, hfz28_1⟩ := cf2 BK687
        obtain ⟨hcz29_0, hcz29_1, hfz29_0, hfz29_1⟩ := cf2 BK692
        go_wp2
        go_meet
        case rel => exact ⟨_, (true), q1, H', ⟨by have := HJ8.out; first | omega | exact Nat.le_refl _⟩, ⟨by (with_reducible repeat (first | refine blk_drewN ?_ _ | refine blk_drew ?_ | refine blk_alloc ?_ _)); refine blk_far ?_ NB687_692.out _; (with_reducible repeat (first | refine blk_drewN ?_ _ | refine blk_drew ?_ | refine blk_alloc ?_ _)); refine blk_far ?_ NB687_692.out _; (with_reducible repeat (first | refine blk_drewN ?_ _ | refine blk_drew ?_ | refine blk_alloc ?_ _)); exact BK687.out⟩, ⟨by (with_reducible repeat (first | refine blk_drewN ?_ _ | refine blk_drew ?_ | refine blk_alloc ?_ _)); refine blk_put (cs := #[.int .i64 t688, .int .i64 0]) ?_ 1 _ rfl; (with_reducible repeat (first | refine blk_drewN ?_ _ | refine blk_drew ?_ | refine blk_alloc ?_ _)); refine blk_put (cs := #[.int .i64 0, .int .i64 0]) ?_ 0 _ rfl; (with_reducible repeat (first | refine blk_drewN ?_ _ | refine blk_drew ?_ | refine blk_alloc ?_ _)); exact BK692.out⟩, ⟨bw HB⟩⟩
       ·rw [if_neg c26] at H
        have c26b0 : (!(t683 == t688) || (!(t684 == t689))) = false := by simpa using c26
        clear c26
        (first | rw [c26b0] | (simp only [i64_w, i32_w]; rw [c26b0]) | skip)
        by_cases c30 : t685 = t690
        ·rw [if_pos c30] at H
         have c30b0 := beq_iff_eq.mpr c30
         have c30b1 := bne_eq_false_iff_eq.mpr c30
         clear c30
         have H' := Aside0.mk H
         clear H
         have hnb31 := NB687_692.out
         have hnc31 := NB692_687.out
         obtain ⟨hcz32_0, hcz32_1, hfz32_0, hfz32_1⟩ := cf2 BK687
         obtain ⟨hcz33_0, hcz33_1, hfz33_0, hfz33_1⟩ := cf2 BK692
         go_wp2
         go_meet
         case rel => exact ⟨_, ((t686 != t691)), q1, H', ⟨by have := HJ8.out; first | omega | exact Nat.le_refl _⟩, ⟨by (with_reducible repeat (first | refine blk_drewN ?_ _ | refine blk_drew ?_ | refine blk_alloc ?_ _)); refine blk_far ?_ NB687_692.out _; (with_reducible repeat (first | refine blk_drewN ?_ _ | refine blk_drew ?_ | refine blk_alloc ?_ _)); refine blk_far ?_ NB687_692.out _; (with_reducible repeat (first | refine blk_drewN ?_ _ | refine blk_drew ?_ | refine blk_alloc ?_ _)); exact BK687.out⟩, ⟨by (with_reducible repeat (first | refine blk_drewN ?_ _ | refine blk_drew ?_ | refine blk_alloc ?_ _)); refine blk_put (cs := #[.int .i64 t688, .int .i64 0]) ?_ 1 _ rfl; (with_reducible repeat (first | refine blk_drewN ?_ _ | refine blk_drew ?_ | refine blk_alloc ?_ _)); refine blk_put (cs := #[.int .i64 0, .int .i64 0]) ?_ 0 _ rfl; (with_reducible repeat (first | refine blk_drewN ?_ _ | refine blk_drew ?_ | refine blk_alloc ?_ _)); exact BK692.out⟩, ⟨bw HB⟩⟩
        ·rw [if_neg c30] at H
         have c30b0 := beq_eq_false_iff_ne.mpr c30
         have c30b1 := bne_iff_ne.mpr c30
         have H' := Aside0.mk H
         clear H
         have hnb34 := NB687_692.out
         have hnc34 := NB692_687.out
         obtain ⟨hcz35_0, hcz35_1, hfz35_0, hfz35_1⟩ := cf2 BK687
         obtain ⟨hcz36_0, hcz36_1, hfz36_0, hfz36_1⟩ := cf2 BK692
         go_wp2
         go_meet
         case rel => exact ⟨_, (true), q1, H', ⟨by have := HJ8.out; first | omega | exact Nat.le_refl _⟩, ⟨by (with_reducible repeat (first | refine blk_drewN ?_ _ | refine blk_drew ?_ | refine blk_alloc ?_ _)); refine blk_far ?_ NB687_692.out _; (with_reducible repeat (first | refine blk_drewN ?_ _ | refine blk_drew ?_ | refine blk_alloc ?_ _)); refine blk_far ?_ NB687_692.out _; (with_reducible repeat (first | refine blk_drewN ?_ _ | refine blk_drew ?_ | refine blk_alloc ?_ _)); exact BK687.out⟩, ⟨by (with_reducible repeat (first | refine blk_drewN ?_ _ | refine blk_drew ?_ | refine blk_alloc ?_ _)); refine blk_put (cs := #[.int .i64 t688, .int .i64 0]) ?_ 1 _ rfl; (with_reducible repeat (first | refine blk_drewN ?_ _ | refine blk_drew ?_ | refine blk_alloc ?_ _)); refine blk_put (cs := #[.int .i64 0, .int .i64 0]) ?_ 0 _ rfl; (with_reducible repeat (first | refine blk_drewN ?_ _ | refine blk_drew ?_ | refine blk_alloc ?_ _)); exact BK692.out⟩, ⟨bw HB⟩⟩
      case rest =>
       clear HC18
       try clear c4
       try clear c5
       try clear c5b0
       try clear c5b1
       try clear c15
       try clear hcz21_0
       try clear hcz21_1
       try clear hcz25_0
       try clear hcz25_1
       try clear hfz21_0
       try clear hfz21_1
       try clear hfz25_0
       try clear hfz25_1
       obtain ⟨kq, x71_17, rfl, HA, HJ17, BK687, BK692, HB⟩ := hcut
       cases kq with
       | zero => exact absurd HA.out (by simp [environlaw03_TextsReads.j1])
       | succ kj17 =>
        have H := HA.out
        clear HA
        simp only [environlaw03_TextsReads.j1] at H
        by_cases c37 : x71_17 = true
        ·subst c37
         rw [if_pos rfl] at H
         obtain rfl := Option.some.inj H
         go_wp2
         go_ret
         exact ⟨by first | rfl | (simp [errW_none, errW_some] <;> rfl) | (simp [*, errW_none, errW_some] <;> rfl), bw HB⟩
        ·replace c37 := Bool.eq_false_iff.mpr c37
         subst c37
         rw [if_neg (show ¬ (false = true) by decide)] at H
         replace H := Option.bind_eq_some_iff.mp H
         obtain ⟨⟨t693, t694, t695⟩, A380, H⟩ := H
         try dsimp only at H
         have A38 := Aside0.mk A380
         clear A380
         replace H := Option.bind_eq_some_iff.mp H
         obtain ⟨⟨t696, t697, t698⟩, A390, H⟩ := H
         try dsimp only at H
         have A39 := Aside0.mk A390
         clear A390
         by_cases c40 : t693 = t696
         ·rw [if_pos c40] at H
          have c40b0 := beq_iff_eq.mpr c40
          have c40b1 := bne_eq_false_iff_eq.mpr c40
          clear c40
          by_cases c41 : t694 = t697
          ·rw [if_pos c41] at H
           have c41b0 := beq_iff_eq.mpr c41
           have c41b1 := bne_eq_false_iff_eq.mpr c41
           clear c41
           obtain rfl := Option.some.inj H
           go_wp2_with (first | (refine gc 22 ?_; refine gl (some 75) Tryz.func22 #[.int .i64 a0, .string a1] ?_; (with_reducible refine (texts_ReadWord.calls kj17 a0 a1 t693 t694 t695 _ A38.out).mono ?_); rintro e w42 ⟨rfl, hb⟩; refine ⟨_, rfl, ?_⟩; replace BK687 := Aside0.mk (bb BK687 hb); replace BK692 := Aside0.mk (bb BK692 hb); replace HB := bt_ HB hb; (try clear hb)) | (refine gc 23 ?_; refine gl (some 82) Tryz.func23 #[.int .i64 a0, .string a1] ?_; (with_reducible refine (environref03_ReadWord.calls kj17 a0 a1 t696 t697 t698 _ A39.out).mono ?_); rintro e w' ⟨rfl, ⟨nd, rfl⟩⟩; refine ⟨_, rfl, ?_⟩))
           go_ret
           exact ⟨by first | rfl | (simp [errW_none, errW_some] <;> rfl) | (simp [*, errW_none, errW_some] <;> rfl), bw HB⟩
          ·rw [if_neg c41] at H
           have c41b0 := beq_eq_false_iff_ne.mpr c41
           have c41b1 := bne_iff_ne.mpr c41
           obtain rfl := Option.some.inj H
           go_wp2_with (first | (refine gc 22 ?_; refine gl (some 75) Tryz.func22 #[.int .i64 a0, .string a1] ?_; (with_reducible refine (texts_ReadWord.calls kj17 a0 a1 t693 t694 t695 _ A38.out).mono ?_); rintro e w43 ⟨rfl, hb⟩; refine ⟨_, rfl, ?_⟩; replace BK687 := Aside0.mk (bb BK687 hb); replace BK692 := Aside0.mk (bb BK692 hb); replace HB := bt_ HB hb; (try clear hb)) | (refine gc 23 ?_; refine gl (some 82) Tryz.func23 #[.int .i64 a0, .string a1] ?_; (with_reducible refine (environref03_ReadWord.calls kj17 a0 a1 t696 t697 t698 _ A39.out).mono ?_); rintro e w' ⟨rfl, ⟨nd, rfl⟩⟩; refine ⟨_, rfl, ?_⟩))
           go_ret
           exact ⟨by first | rfl | (simp [errW_none, errW_some] <;> rfl) | (simp [*, errW_none, errW_some] <;> rfl), bw HB⟩
         ·rw [if_neg c40] at H
          have c40b0 := beq_eq_false_iff_ne.mpr c40
          have c40b1 := bne_iff_ne.mpr c40
          obtain rfl := Option.some.inj H
          go_wp2_with (first | (refine gc 22 ?_; refine gl (some 75) Tryz.func22 #[.int .i64 a0, .string a1] ?_; (with_reducible refine (texts_ReadWord.calls kj17 a0 a1 t693 t694 t695 _ A38.out).mono ?_); rintro e w44 ⟨rfl, hb⟩; refine ⟨_, rfl, ?_⟩; replace BK687 := Aside0.mk (bb BK687 hb); replace BK692 := Aside0.mk (bb BK692 hb); replace HB := bt_ HB hb; (try clear hb)) | (refine gc 23 ?_; refine gl (some 82) Tryz.func23 #[.int .i64 a0, .string a1] ?_; (with_reducible refine (environref03_ReadWord.calls kj17 a0 a1 t696 t697 t698 _ A39.out).mono ?_); rintro e w' ⟨rfl, ⟨nd, rfl⟩⟩; refine ⟨_, rfl, ?_⟩))
          go_ret
          exact ⟨by first | rfl | (simp [errW_none, errW_some] <;> rfl) | (simp [*, errW_none, errW_some] <;> rfl), bw HB⟩
 ·replace c4 := Bool.eq_false_iff.mpr c4
  subst c4
  rw [if_neg (show ¬ (false = true) by decide)] at H
  obtain rfl := Option.some.inj H
  go_enter Tryz.func5, Tryz.ntmps5
  go_wp2_with (first | (refine gc 7 ?_; refine gl (some 13) Tryz.func7 #[] ?_; (with_reducible refine (environlaw03_awake.calls k  false _ (env_at HE_.out (bw HB)) A3.out).mono ?_); rintro e w45 ⟨rfl, hb⟩; refine ⟨_, rfl, ?_⟩; replace HB := bt_ HB hb; (try clear hb)))
  go_ret
  exact ⟨by first | rfl | (simp [errW_none, errW_some] <;> rfl) | (simp [*, errW_none, errW_some] <;> rfl), bw HB⟩

/-- THE ONE PURE STATEMENT of environlaw03_TextsReads: yours. -/
def environlaw03_TextsReads.Pure : Prop := ∀ (a0 : Int) (a1 : ByteArray), (Lit.int .i64 a0).wf = true → a1.size ≤ 140737488351232 → ∃ k, environlaw03_TextsReads.f k a0 a1 = some true
theorem environlaw03_TextsReads.walk (P : environlaw03_TextsReads.Pure) (a0 : Int) (a1 : ByteArray) (w : World) (hE : Env w) (w0 : (Lit.int .i64 a0).wf = true) (w1 : a1.size ≤ 140737488351232) :
  Calls Tryz.prog 5 #[.int .i64 a0, .string a1] w fun e w' => e = .returned (.bool true) ∧ Below w.heap.size w w' := by
 obtain ⟨k, h⟩ := P a0 a1 w0 w1
 refine (environlaw03_TextsReads.calls k a0 a1 true w hE h).mono ?_
 rintro e w' ⟨rfl, hd⟩
 exact ⟨rfl, hd⟩
end Go.Proofs.YtckbmniiecbalaaGreatDoor.PT
