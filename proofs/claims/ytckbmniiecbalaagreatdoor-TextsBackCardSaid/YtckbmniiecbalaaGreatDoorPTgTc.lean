-- written by a program of this session out of the kit's print (its words and its form)
import Derived.Test.YtckbmniiecbalaaGreatDoorPTgSa
import Derived.Test.YtckbmniiecbalaaGreatDoorPTgTa
import Derived.Test.YtckbmniiecbalaaGreatDoorPTgTb
import Derived.Test.YtckbmniiecbalaaGreatDoorPTsq
import Derived.Test.YtckbmniiecbalaaGreatDoorPTx0
namespace Go.Proofs.YtckbmniiecbalaaGreatDoor.PT
open Go.RowKit Go.Proofs.YtckbmniiecbalaaGreatDoorW.PrintWords Go.Proofs.YtckbmniiecbalaaGreatDoorW.PrintLast Go.Proofs.YtckbmniiecbalaaGreatDoorW.PrintMore
attribute [local go_sem] max2_int min2_int max_two min_two max_three min_three max_four min_four   -- for this text's walks alone
set_option linter.unusedVariables false
set_option linter.unusedSimpArgs false

/-! ### texts_Fixed: function 9 -/
mutual
def texts_Fixed.j0 : Nat → Int → Int → Bool → Int → Int → Option (ByteArray)
 | 0, _, _, _, _, _ => none
 | k + 1, x1, x2, x25, x157000, x157001 => if x25 = true then ((texts_stars.f 0).bind fun t159 => (some t159)) else ((texts_sign.f (decide (x157000 < 0)) x1).bind fun t160 => (texts_Fixed.l0 k x1 x2 t160 x157000 x157001))
def texts_Fixed.l0 : Nat → Int → Int → ByteArray → Int → Int → Option (ByteArray)
 | 0, _, _, _, _, _ => none
 | k + 1, x1, x2, x7, x157000, x157001 => if x2 ≥ 0 then ((texts_pointed.f x157000 x157001 x2).bind fun t162 => (if x1 = 0 then (texts_Fixed.j2 k x1 x2 x7 t162 false x157000 x157001) else (if x7.size + t162.size ≤ 9223372036854775807 then (if ((x7 ++ t162).size : Int) = (wrap64 ((mx x1 (wrap64 (-x1))) + 1)) then ((strings_HasPrefix.f t162 (⟨#[48, 46]⟩ : ByteArray)).bind fun t163 => (texts_Fixed.j2 k x1 x2 x7 t162 t163 x157000 x157001)) else (texts_Fixed.j2 k x1 x2 x7 t162 false x157000 x157001)) else (none)))) else ((texts_stars.f x1).bind fun t161 => (some t161))
def texts_Fixed.j2 : Nat → Int → Int → ByteArray → ByteArray → Bool → Int → Int → Option (ByteArray)
 | 0, _, _, _, _, _, _, _ => none
 | k + 1, x1, x2, x7, x8, x56, x157000, x157001 => if x56 = true then (if 1 ≤ (x8.size : Int) then (if x7.size + (x8.extract 1 x8.size).size ≤ 9223372036854775807 then ((texts_filled.f (x7 ++ (x8.extract 1 x8.size)) x1).bind fun bt164 => (if bt164.2 = true then (some bt164.1) else (texts_Fixed.l0 k x1 (wrap64 (x2 - 1)) x7 x157000 x157001))) else (none)) else (none)) else (if x7.size + x8.size ≤ 9223372036854775807 then ((texts_filled.f (x7 ++ x8) x1).bind fun bt166 => (if bt166.2 = true then (some bt166.1) else (texts_Fixed.l0 k x1 (wrap64 (x2 - 1)) x7 x157000 x157001))) else (none))
end
def texts_Fixed.f (k : Nat) (a0_0 : Int) (a0_1 : Int) (a1 : Int) (a2 : Int) : Option (ByteArray) := if a2 < 0 then (texts_Fixed.j0 k a1 a2 true a0_0 a0_1) else (if a2 > 500 then (texts_Fixed.j0 k a1 a2 true a0_0 a0_1) else ((texts_wide.f a1).bind fun t157 => (if t157 = true then (texts_Fixed.j0 k a1 a2 true a0_0 a0_1) else ((texts_valid.f k a0_0 a0_1).bind fun t158 => (texts_Fixed.j0 k a1 a2 (!t158) a0_0 a0_1)))))
theorem texts_Fixed.mono_l : ∀ k, (∀ y0 y1 y2 y3 y4, LeO (texts_Fixed.j0 k y0 y1 y2 y3 y4) (texts_Fixed.j0 (k + 1) y0 y1 y2 y3 y4)) ∧ (∀ y0 y1 y2 y3 y4, LeO (texts_Fixed.l0 k y0 y1 y2 y3 y4) (texts_Fixed.l0 (k + 1) y0 y1 y2 y3 y4)) ∧ (∀ y0 y1 y2 y3 y4 y5 y6, LeO (texts_Fixed.j2 k y0 y1 y2 y3 y4 y5 y6) (texts_Fixed.j2 (k + 1) y0 y1 y2 y3 y4 y5 y6))
 | 0 => ⟨fun _ _ _ _ _ r h => by simp [texts_Fixed.j0] at h, fun _ _ _ _ _ r h => by simp [texts_Fixed.l0] at h, fun _ _ _ _ _ _ _ r h => by simp [texts_Fixed.j2] at h⟩
 | k + 1 => by
  obtain ⟨ih0, ih1, ih2⟩ := texts_Fixed.mono_l k
  refine ⟨?_, ?_, ?_⟩
  ·intro y0 y1 y2 y3 y4
   unfold texts_Fixed.j0
   repeat' first
   | (with_reducible exact ih0 _ _ _ _ _)
   | (with_reducible exact ih1 _ _ _ _ _)
   | (with_reducible exact ih2 _ _ _ _ _ _ _)
   | (with_reducible exact texts_valid.mono _ _ _)
   | (with_reducible exact LeO.refl _)
   | (with_reducible exact LeO.none _)
   | (with_reducible refine LeO.ite ?_ ?_)
   | (with_reducible refine LeO.bind ?_ (fun _ => ?_))
   | exact ih0 _ _ _ _ _
   | exact ih1 _ _ _ _ _
   | exact ih2 _ _ _ _ _ _ _
   | exact texts_valid.mono _ _ _
   | exact LeO.none _
   | refine LeO.ite ?_ ?_
   | refine LeO.bind ?_ (fun _ => ?_)
  ·intro y0 y1 y2 y3 y4
   unfold texts_Fixed.l0
   repeat' first
   | (with_reducible exact ih0 _ _ _ _ _)
   | (with_reducible exact ih1 _ _ _ _ _)
   | (with_reducible exact ih2 _ _ _ _ _ _ _)
   | (with_reducible exact texts_valid.mono _ _ _)
   | (with_reducible exact LeO.refl _)
   | (with_reducible exact LeO.none _)
   | (with_reducible refine LeO.ite ?_ ?_)
   | (with_reducible refine LeO.bind ?_ (fun _ => ?_))
   | exact ih0 _ _ _ _ _
   | exact ih1 _ _ _ _ _
   | exact ih2 _ _ _ _ _ _ _
   | exact texts_valid.mono _ _ _
   | exact LeO.none _
   | refine LeO.ite ?_ ?_
   | refine LeO.bind ?_ (fun _ => ?_)
  ·intro y0 y1 y2 y3 y4 y5 y6
   unfold texts_Fixed.j2
   repeat' first
   | (with_reducible exact ih0 _ _ _ _ _)
   | (with_reducible exact ih1 _ _ _ _ _)
   | (with_reducible exact ih2 _ _ _ _ _ _ _)
   | (with_reducible exact texts_valid.mono _ _ _)
   | (with_reducible exact LeO.refl _)
   | (with_reducible exact LeO.none _)
   | (with_reducible refine LeO.ite ?_ ?_)
   | (with_reducible refine LeO.bind ?_ (fun _ => ?_))
   | exact ih0 _ _ _ _ _
   | exact ih1 _ _ _ _ _
   | exact ih2 _ _ _ _ _ _ _
   | exact texts_valid.mono _ _ _
   | exact LeO.none _
   | refine LeO.ite ?_ ?_
   | refine LeO.bind ?_ (fun _ => ?_)
theorem texts_Fixed.mono : ∀ a0 a1 a2 a3 k, LeO (texts_Fixed.f k a0 a1 a2 a3) (texts_Fixed.f (k + 1) a0 a1 a2 a3) := by
 intro a0 a1 a2 a3 k
 obtain ⟨ih0, ih1, ih2⟩ := texts_Fixed.mono_l k
 unfold texts_Fixed.f
 repeat' first
   | (with_reducible exact ih0 _ _ _ _ _)
   | (with_reducible exact ih1 _ _ _ _ _)
   | (with_reducible exact ih2 _ _ _ _ _ _ _)
   | (with_reducible exact texts_valid.mono _ _ _)
   | (with_reducible exact LeO.refl _)
   | (with_reducible exact LeO.none _)
   | (with_reducible refine LeO.ite ?_ ?_)
   | (with_reducible refine LeO.bind ?_ (fun _ => ?_))
   | exact ih0 _ _ _ _ _
   | exact ih1 _ _ _ _ _
   | exact ih2 _ _ _ _ _ _ _
   | exact texts_valid.mono _ _ _
   | exact LeO.none _
   | refine LeO.ite ?_ ?_
   | refine LeO.bind ?_ (fun _ => ?_)
set_option maxHeartbeats 8000000 in
set_option maxRecDepth 100000 in
theorem texts_Fixed.calls (k : Nat) (a0_0 : Int) (a0_1 : Int) (a1 : Int) (a2 : Int) (r : ByteArray) (w : World) (hE : Env w) (h : texts_Fixed.f k a0_0 a0_1 a1 a2 = some r) :
  Calls Tryz.prog 9 #[.agg #[.int .i64 a0_0, .int .i64 a0_1], .int .i64 a1, .int .i64 a2] w fun e w' => e = .returned (.string r) ∧ Below w.heap.size w w' := by
 have HE_ := Aside0.mk hE
 clear hE
 have hu23 := Tryz.underlying23
 have HB := Aside0.mk (Below.refl w.heap.size w)
 have H : (if a2 < 0 then (texts_Fixed.j0 k a1 a2 true a0_0 a0_1) else (if a2 > 500 then (texts_Fixed.j0 k a1 a2 true a0_0 a0_1) else ((texts_wide.f a1).bind fun t157 => (if t157 = true then (texts_Fixed.j0 k a1 a2 true a0_0 a0_1) else ((texts_valid.f k a0_0 a0_1).bind fun t158 => (texts_Fixed.j0 k a1 a2 (!t158) a0_0 a0_1)))))) = some r := h
 clear h
 have HC4 := Aside0.mk H
 clear H
 go_enter Tryz.func9, Tryz.ntmps9
 go_upto_region 1 with (first | ((with_reducible refine gate_dst (N := 3) rfl ?_); (try (refine gate_guard (by rfl) ?_; dsimp only)); refine box_event ?hg (N := 3) ?hd (cs := #[.int .i64 a0_0, .int .i64 a0_1]) (t := 23) ?hr ?_; (case hd => rfl); (case hg => rfl); (case hr => first | (go_simp; done) | (go_simp; rfl)); intro gb156 hg w5 hbox hb; have BK156 := Aside0.mk (hbox); have GW156 := Aside0.mk (bs HB hg : w.heap.size ≤ gb156); replace HB := Aside0.mk (below_step (bw HB) hb); clear hb hbox hg))
 (try simp only [sx])
 go_cut [25] (fun v25 wc => ∃ (kq : Nat) (x25_3 : Bool), v25 = .bool x25_3 ∧ Aside0 (texts_Fixed.j0 kq a1 a2 x25_3 a0_0 a0_1 = some r) ∧ Aside0 (kq ≤ k) ∧ Aside0 (wc.heap[gb156]? = some (.cells #[.int .i64 a0_0, .int .i64 a0_1] 23 (0, 0))) ∧ Aside0 (Below w.heap.size w wc))
 case first =>
  have H := HC4.out
  clear HC4
  by_cases c6 : a2 < 0
  ·rw [if_pos c6] at H
   have c6b0 : decide (a2 < 0) = true := decide_eq_true c6
   clear c6
   (first | rw [c6b0] | (simp only [i64_w, i32_w]; rw [c6b0]) | skip)
   have H' := Aside0.mk H
   clear H
   go_wp2
   go_meet
   case rel => exact ⟨_, (true), (by first | rfl | (simp; done) | (simp [*]; done)), H', ⟨by first | omega | exact Nat.le_refl _⟩, ⟨by (with_reducible repeat (first | refine blk_drewN ?_ _ | refine blk_drew ?_ | refine blk_alloc ?_ _)); exact BK156.out⟩, ⟨bw HB⟩⟩
  ·rw [if_neg c6] at H
   have c6b0 : decide (a2 < 0) = false := decide_eq_false c6
   clear c6
   (first | rw [c6b0] | (simp only [i64_w, i32_w]; rw [c6b0]) | skip)
   by_cases c7 : a2 > 500
   ·rw [if_pos c7] at H
    have c7b0 : decide (500 < a2) = true := decide_eq_true c7
    clear c7
    have H' := Aside0.mk H
    clear H
    go_wp2
    go_meet
    case rel => exact ⟨_, (true), (by first | rfl | (simp; done) | (simp [*]; done)), H', ⟨by first | omega | exact Nat.le_refl _⟩, ⟨by (with_reducible repeat (first | refine blk_drewN ?_ _ | refine blk_drew ?_ | refine blk_alloc ?_ _)); exact BK156.out⟩, ⟨bw HB⟩⟩
   ·rw [if_neg c7] at H
    have c7b0 : decide (500 < a2) = false := decide_eq_false c7
    clear c7
    replace H := Option.bind_eq_some_iff.mp H
    obtain ⟨t157, A80, H⟩ := H
    replace H : (if t157 = true then (texts_Fixed.j0 k a1 a2 true a0_0 a0_1) else ((texts_valid.f k a0_0 a0_1).bind fun t158 => (texts_Fixed.j0 k a1 a2 (!t158) a0_0 a0_1))) = some r := H
    have A8 := Aside0.mk A80
    clear A80
    by_cases c9 : t157 = true
    ·subst c9
     have H1 : (texts_Fixed.j0 k a1 a2 true a0_0 a0_1) = some r := by rw [if_pos rfl] at H; exact H
     clear H
     have H := H1
     clear H1
     have H' := Aside0.mk H
     clear H
     go_wp2_with (first | (go_at_call 28; (with_reducible refine (texts_wide.calls a1 true _ A8.out).mono ?_); rintro e w' ⟨rfl, ⟨nd, rfl⟩⟩))
     go_meet
     case rel => exact ⟨_, (true), (by first | rfl | (simp; done) | (simp [*]; done)), H', ⟨by first | omega | exact Nat.le_refl _⟩, ⟨by (with_reducible repeat (first | refine blk_drewN ?_ _ | refine blk_drew ?_ | refine blk_alloc ?_ _)); exact BK156.out⟩, ⟨bw HB⟩⟩
    ·replace c9 := Bool.eq_false_iff.mpr c9
     subst c9
     have H1 : ((texts_valid.f k a0_0 a0_1).bind fun t158 => (texts_Fixed.j0 k a1 a2 (!t158) a0_0 a0_1)) = some r := by rw [if_neg (show ¬ (false = true) by decide)] at H; exact H
     clear H
     have H := H1
     clear H1
     replace H := Option.bind_eq_some_iff.mp H
     obtain ⟨t158, A100, H⟩ := H
     replace H : (texts_Fixed.j0 k a1 a2 (!t158) a0_0 a0_1) = some r := H
     have A10 := Aside0.mk A100
     clear A100
     have H' := Aside0.mk H
     clear H
     go_wp2_with (first | (go_at_call 28; (with_reducible refine (texts_wide.calls a1 false _ A8.out).mono ?_); rintro e w' ⟨rfl, ⟨nd, rfl⟩⟩; obtain ⟨hcz11_0, hcz11_1, hfz11_0, hfz11_1⟩ := cf2 BK156) | (go_at_call 33; (with_reducible refine (texts_valid.calls k a0_0 a0_1 t158 _ A10.out).mono ?_); rintro e w12 ⟨rfl, hb⟩; replace BK156 := Aside0.mk (bb BK156 hb); replace HB := Aside0.mk (below_step (bw HB) hb); (try clear hb); (try clear hb2); (try clear hk); (try clear hi)))
     go_meet
     case rel => exact ⟨_, (!t158), (by first | rfl | (simp; done) | (simp [*]; done)), H', ⟨by first | omega | exact Nat.le_refl _⟩, ⟨by (with_reducible repeat (first | refine blk_drewN ?_ _ | refine blk_drew ?_ | refine blk_alloc ?_ _)); exact BK156.out⟩, ⟨bw HB⟩⟩
 case rest =>
  clear HC4
  try clear p2
  try clear c6
  try clear c6b0
  try clear c7
  try clear c7b0
  try clear c9
  try clear hcz11_0
  try clear hcz11_1
  try clear hfz11_0
  try clear hfz11_1
  obtain ⟨kq, x25_3, rfl, HA, HJ3, BK156, HB⟩ := hcut
  cases kq with
  | zero => exact absurd HA.out (by simp [texts_Fixed.j0])
  | succ kj3 =>
   have H := HA.out
   clear HA
   simp only [texts_Fixed.j0] at H
   by_cases c13 : x25_3 = true
   ·subst c13
    have H1 : ((texts_stars.f 0).bind fun t159 => (some t159)) = some r := by rw [if_pos rfl] at H; exact H
    clear H
    have H := H1
    clear H1
    replace H := Option.bind_eq_some_iff.mp H
    obtain ⟨t159, A140, H⟩ := H
    replace H : (some t159) = some r := H
    have A14 := Aside0.mk A140
    clear A140
    obtain rfl := Option.some.inj H
    go_wp2_with (first | ((with_reducible refine gate_callee (f := 29) rfl ?_); refine goesL_ (some 26) rfl rfl Tryz.func29 (by kernel_rfl) rfl #[.int .i64 0] rfl (by (try simp only [List.map_toArray, List.map_cons, List.map_nil]); first | done | rfl | (simp only [List.length_drop, List.length_take]; rfl)) ?_; (with_reducible refine (texts_stars.calls 0 t159 _ A14.out).mono ?_); rintro e w15 ⟨rfl, hb⟩; refine ⟨_, rfl, ?_⟩; replace BK156 := Aside0.mk (bb BK156 hb); replace HB := Aside0.mk (below_step (bw HB) hb); (try clear hb); (try clear hb2); (try clear hk); (try clear hi)))
    go_ret
    exact ⟨by first | rfl | (simp [errW_none, errW_some] <;> rfl) | (simp [*, errW_none, errW_some] <;> rfl), bw HB⟩
   ·replace c13 := Bool.eq_false_iff.mpr c13
    subst c13
    have H1 : ((texts_sign.f (decide (a0_0 < 0)) a1).bind fun t160 => (texts_Fixed.l0 kj3 a1 a2 t160 a0_0 a0_1)) = some r := by rw [if_neg (show ¬ (false = true) by decide)] at H; exact H
    clear H
    have H := H1
    clear H1
    replace H := Option.bind_eq_some_iff.mp H
    obtain ⟨t160, A160, H⟩ := H
    replace H : (texts_Fixed.l0 kj3 a1 a2 t160 a0_0 a0_1) = some r := H
    have A16 := Aside0.mk A160
    clear A160
    have H' := Aside0.mk H
    clear H
    have hcz17_0 : wc.cell? ⟨gb156, 0, none⟩ = some (.int .i64 a0_0) := (blk_cell BK156.out 0).trans rfl
    have hcz17_1 : wc.cell? ⟨gb156, 1, none⟩ = some (.int .i64 a0_1) := (blk_cell BK156.out 1).trans rfl
    have hfz17_0 := blk_frozen BK156.out 0
    have hfz17_1 := blk_frozen BK156.out 1
    go_wp2_with (first | ((with_reducible refine gate_callee (f := 31) rfl ?_); refine goesL_ (some 31) rfl rfl Tryz.func31 (by kernel_rfl) rfl #[.bool (decide (a0_0 < 0)), .int .i64 a1] rfl (by (try simp only [List.map_toArray, List.map_cons, List.map_nil]); first | done | rfl | (simp only [List.length_drop, List.length_take]; rfl)) ?_; (with_reducible refine (texts_sign.calls (decide (a0_0 < 0)) a1 t160 _ A16.out).mono ?_); rintro e w' ⟨rfl, ⟨nd, rfl⟩⟩; refine ⟨_, rfl, ?_⟩))
    go_loopg [2] kj3 (fun kq v2 w' => ∃ (x2_2 : Int), v2 = .int .i64 x2_2 ∧ Aside0 (texts_Fixed.l0 kq a1 x2_2 t160 a0_0 a0_1 = some r) ∧ Aside0 (kq ≤ kj3) ∧ Aside0 (w'.heap[gb156]? = some (.cells #[.int .i64 a0_0, .int .i64 a0_1] 23 (0, 0))) ∧ Aside0 (Below w.heap.size w w'))
    case atStart => exact ⟨(a2), (by first | rfl | (simp; done) | (simp [*]; done)), H', ⟨Nat.le_refl _⟩, ⟨by (with_reducible repeat (first | refine blk_drewN ?_ _ | refine blk_drew ?_ | refine blk_alloc ?_ _)); exact BK156.out⟩, ⟨bw HB⟩⟩
    case round =>
     clear H'
     try clear c1
     try clear c2
     try clear p2
     try clear c3
     try clear c6
     try clear c6b0
     try clear c7
     try clear c7b0
     try clear c9
     try clear c13
     try clear hcz11_0
     try clear hcz11_1
     try clear hcz17_0
     try clear hcz17_1
     try clear hfz11_0
     try clear hfz11_1
     try clear hfz17_0
     try clear hfz17_1
     try clear p2
     obtain ⟨x2_2, rfl, HA, HK2, BK156, HB⟩ := hrel
     cases gk with
     | zero => exact absurd HA.out (by simp [texts_Fixed.l0])
     | succ k2 =>
      have H := HA.out
      clear HA
      simp only [texts_Fixed.l0] at H
      by_cases c18 : x2_2 ≥ 0
      ·rw [if_pos c18] at H
       have c18b0 : decide (0 ≤ x2_2) = true := decide_eq_true c18
       clear c18
       replace H := Option.bind_eq_some_iff.mp H
       obtain ⟨t162, A190, H⟩ := H
       replace H : (if a1 = 0 then (texts_Fixed.j2 k2 a1 x2_2 t160 t162 false a0_0 a0_1) else (if t160.size + t162.size ≤ 9223372036854775807 then (if ((t160 ++ t162).size : Int) = (wrap64 ((mx a1 (wrap64 (-a1))) + 1)) then ((strings_HasPrefix.f t162 (⟨#[48, 46]⟩ : ByteArray)).bind fun t163 => (texts_Fixed.j2 k2 a1 x2_2 t160 t162 t163 a0_0 a0_1)) else (texts_Fixed.j2 k2 a1 x2_2 t160 t162 false a0_0 a0_1)) else (none))) = some r := H
       have A19 := Aside0.mk A190
       clear A190
       have HC20 := Aside0.mk H
       clear H
       have hcz21_0 : wr.cell? ⟨gb156, 0, none⟩ = some (.int .i64 a0_0) := (blk_cell BK156.out 0).trans rfl
       have hcz21_1 : wr.cell? ⟨gb156, 1, none⟩ = some (.int .i64 a0_1) := (blk_cell BK156.out 1).trans rfl
       have hfz21_0 := blk_frozen BK156.out 0
       have hfz21_1 := blk_frozen BK156.out 1
       go_upto_region 7 with (first | ((with_reducible refine gate_callee (f := 34) rfl ?_); refine goesL_ (some 38) rfl rfl Tryz.func34 (by kernel_rfl) rfl #[.agg #[.int .i64 a0_0, .int .i64 a0_1], .int .i64 x2_2] rfl (by (try simp only [List.map_toArray, List.map_cons, List.map_nil]); first | done | rfl | (simp only [List.length_drop, List.length_take]; rfl)) ?_; (with_reducible refine (texts_pointed.calls a0_0 a0_1 x2_2 t162 _ (env_at HE_.out (bw HB)) A19.out).mono ?_); rintro e w22 ⟨rfl, hb⟩; refine ⟨_, rfl, ?_⟩; replace BK156 := Aside0.mk (bb BK156 hb); replace HB := Aside0.mk (below_step (bw HB) hb); (try clear hb); (try clear hb2); (try clear hk); (try clear hi)))
       (try simp only [sx])
       go_cut [56] (fun v56 wc => ∃ (kq : Nat) (x56_19 : Bool), v56 = .bool x56_19 ∧ Aside0 (texts_Fixed.j2 kq a1 x2_2 t160 t162 x56_19 a0_0 a0_1 = some r) ∧ Aside0 (kq ≤ k2) ∧ Aside0 (wc.heap[gb156]? = some (.cells #[.int .i64 a0_0, .int .i64 a0_1] 23 (0, 0))) ∧ Aside0 (Below w.heap.size w wc))
       case first =>
        have H := HC20.out
        clear HC20
        by_cases c23 : a1 = 0
        ·rw [if_pos c23] at H
         have c23b0 : (a1 == 0) = true := beq_iff_eq.mpr c23
         have c23b1 : (a1 != 0) = false := bne_eq_false_iff_eq.mpr c23
         clear c23
         (first | rw [c23b0] | (simp only [i64_w, i32_w]; rw [c23b0]) | skip)
         have H' := Aside0.mk H
         clear H
         go_wp2
         go_meet
         case rel => exact ⟨_, (false), (by first | rfl | (simp; done) | (simp [*]; done)), H', ⟨by have := HJ3.out; have := HK2.out; first | omega | exact Nat.le_refl _⟩, ⟨by (with_reducible repeat (first | refine blk_drewN ?_ _ | refine blk_drew ?_ | refine blk_alloc ?_ _)); exact BK156.out⟩, ⟨bw HB⟩⟩
        ·rw [if_neg c23] at H
         have c23b0 : (a1 == 0) = false := beq_eq_false_iff_ne.mpr c23
         have c23b1 : (a1 != 0) = true := bne_iff_ne.mpr c23
         (first | rw [c23b0] | (simp only [i64_w, i32_w]; rw [c23b0]) | skip)
         by_cases c24 : t160.size + t162.size ≤ 9223372036854775807
         ·rw [if_pos c24] at H
          have c24b0 := eq_true c24
          have c24b1 : decide (t160.size + t162.size ≤ 9223372036854775807) = true := decide_eq_true c24
          try have c24b2 : (9223372036854775807 < t160.size + t162.size) = False := eq_false (Nat.not_lt.2 c24)
          obtain ⟨ji25, hji25⟩ : ∃ j_ : Int, (mx a1 (wrap64 (-a1))) = j_ := ⟨_, rfl⟩
          replace H : (if ((t160 ++ t162).size : Int) = (wrap64 ((ji25) + 1)) then ((strings_HasPrefix.f t162 (⟨#[48, 46]⟩ : ByteArray)).bind fun t163 => (texts_Fixed.j2 k2 a1 x2_2 t160 t162 t163 a0_0 a0_1)) else (texts_Fixed.j2 k2 a1 x2_2 t160 t162 false a0_0 a0_1)) = some r := by first | (rw [hji25] at H; exact H) | (simp only [hji25] at H ⊢; exact H)
          have hji25_ : (if a1 < (wrap64 (-a1)) then (wrap64 (-a1)) else a1) = ji25 := hji25
          by_cases c26 : ((t160 ++ t162).size : Int) = (wrap64 ((ji25) + 1))
          ·rw [if_pos c26] at H
           have c26b0 : (((t160 ++ t162).size : Int) == (wrap64 ((ji25) + 1))) = true := beq_iff_eq.mpr c26
           have c26b1 : (((t160 ++ t162).size : Int) != (wrap64 ((ji25) + 1))) = false := bne_eq_false_iff_eq.mpr c26
           have c26s : ((t160.size : Int) + (t162.size : Int) = (wrap64 ((ji25) + 1))) = True := eq_true (by rw [← c26, ByteArray.size_append]; exact (Int.natCast_add ..).symm)
           clear c26
           replace H := Option.bind_eq_some_iff.mp H
           obtain ⟨t163, A270, H⟩ := H
           replace H : (texts_Fixed.j2 k2 a1 x2_2 t160 t162 t163 a0_0 a0_1) = some r := H
           have A27 := Aside0.mk A270
           clear A270
           have H' := Aside0.mk H
           clear H
           go_wp2_with (first | (go_at_call 35; (with_reducible refine (strings_HasPrefix.calls t162 (⟨#[48, 46]⟩ : ByteArray) t163 _ A27.out).mono ?_); rintro e w' ⟨rfl, ⟨nd, rfl⟩⟩))
           go_meet
           case rel => exact ⟨_, (t163), (by first | rfl | (simp; done) | (simp [*]; done)), H', ⟨by have := HJ3.out; have := HK2.out; first | omega | exact Nat.le_refl _⟩, ⟨by (with_reducible repeat (first | refine blk_drewN ?_ _ | refine blk_drew ?_ | refine blk_alloc ?_ _)); exact BK156.out⟩, ⟨bw HB⟩⟩
          ·rw [if_neg c26] at H
           have c26b0 : (((t160 ++ t162).size : Int) == (wrap64 ((ji25) + 1))) = false := beq_eq_false_iff_ne.mpr c26
           have c26b1 : (((t160 ++ t162).size : Int) != (wrap64 ((ji25) + 1))) = true := bne_iff_ne.mpr c26
           have c26s : ((t160.size : Int) + (t162.size : Int) = (wrap64 ((ji25) + 1))) = False := eq_false (fun h => c26 (by rw [← h, ByteArray.size_append]; exact Int.natCast_add ..))
           have H' := Aside0.mk H
           clear H
           go_wp2
           go_meet
           case rel => exact ⟨_, (false), (by first | rfl | (simp; done) | (simp [*]; done)), H', ⟨by have := HJ3.out; have := HK2.out; first | omega | exact Nat.le_refl _⟩, ⟨by (with_reducible repeat (first | refine blk_drewN ?_ _ | refine blk_drew ?_ | refine blk_alloc ?_ _)); exact BK156.out⟩, ⟨bw HB⟩⟩
         ·rw [if_neg c24] at H
          exact absurd H (by simp)
       case rest =>
        clear HC20
        try clear c1
        try clear c2
        try clear p2
        try clear c3
        try clear c6
        try clear c6b0
        try clear p6
        try clear c7
        try clear c7b0
        try clear c9
        try clear c13
        try clear c18
        try clear c18b0
        try clear c23
        try clear c23b0
        try clear c23b1
        try clear c24
        try clear c24b0
        try clear c24b1
        try clear c24b2
        try clear c26
        try clear c26b0
        try clear c26b1
        try clear hcz11_0
        try clear hcz11_1
        try clear hcz17_0
        try clear hcz17_1
        try clear hcz21_0
        try clear hcz21_1
        try clear hfz11_0
        try clear hfz11_1
        try clear hfz17_0
        try clear hfz17_1
        try clear hfz21_0
        try clear hfz21_1
        try clear p2
        obtain ⟨kq, x56_19, rfl, HA, HJ19, BK156, HB⟩ := hcut
        cases kq with
        | zero => exact absurd HA.out (by simp [texts_Fixed.j2])
        | succ kj19 =>
         have H := HA.out
         clear HA
         simp only [texts_Fixed.j2] at H
         by_cases c28 : x56_19 = true
         ·subst c28
          have H1 : (if 1 ≤ (t162.size : Int) then (if t160.size + (t162.extract 1 t162.size).size ≤ 9223372036854775807 then ((texts_filled.f (t160 ++ (t162.extract 1 t162.size)) a1).bind fun bt164 => (if bt164.2 = true then (some bt164.1) else (texts_Fixed.l0 kj19 a1 (wrap64 (x2_2 - 1)) t160 a0_0 a0_1))) else (none)) else (none)) = some r := by rw [if_pos rfl] at H; exact H
          clear H
          have H := H1
          clear H1
          by_cases c29 : 1 ≤ (t162.size : Int)
          ·rw [if_pos c29] at H
           have c29b0 := eq_true c29
           have c29b1 : decide (1 ≤ (t162.size : Int)) = true := decide_eq_true c29
           clear c29
           by_cases c30 : t160.size + (t162.extract 1 t162.size).size ≤ 9223372036854775807
           ·rw [if_pos c30] at H
            have c30b0 := eq_true c30
            have c30b1 : decide (t160.size + (t162.extract 1 t162.size).size ≤ 9223372036854775807) = true := decide_eq_true c30
            try have c30b2 : (9223372036854775807 < t160.size + (t162.extract 1 t162.size).size) = False := eq_false (Nat.not_lt.2 c30)
            replace H := Option.bind_eq_some_iff.mp H
            obtain ⟨⟨t164, t165⟩, A310, H⟩ := H
            replace H : (if t165 = true then (some t164) else (texts_Fixed.l0 kj19 a1 (wrap64 (x2_2 - 1)) t160 a0_0 a0_1)) = some r := H
            have A31 := Aside0.mk A310
            clear A310
            by_cases c32 : t165 = true
            ·subst c32
             have H1 : (some t164) = some r := by rw [if_pos rfl] at H; exact H
             clear H
             have H := H1
             clear H1
             obtain rfl := Option.some.inj H
             go_wp2_with (first | ((with_reducible refine gate_callee (f := 30) rfl ?_); refine goesL_ (some 64) rfl rfl Tryz.func30 (by kernel_rfl) rfl #[.string (t160 ++ (t162.extract 1 t162.size)), .int .i64 a1] rfl (by (try simp only [List.map_toArray, List.map_cons, List.map_nil]); first | done | rfl | (simp only [List.length_drop, List.length_take]; rfl)) ?_; (with_reducible refine (texts_filled.calls (t160 ++ (t162.extract 1 t162.size)) a1 t164 true _ A31.out).mono ?_); rintro e w33 ⟨rfl, hb⟩; refine ⟨_, rfl, ?_⟩; replace BK156 := Aside0.mk (bb BK156 hb); replace HB := Aside0.mk (below_step (bw HB) hb); (try clear hb); (try clear hb2); (try clear hk); (try clear hi)))
             go_ret
             exact ⟨by first | rfl | (simp [errW_none, errW_some] <;> rfl) | (simp [*, errW_none, errW_some] <;> rfl), bw HB⟩
            ·replace c32 := Bool.eq_false_iff.mpr c32
             subst c32
             have H1 : (texts_Fixed.l0 kj19 a1 (wrap64 (x2_2 - 1)) t160 a0_0 a0_1) = some r := by rw [if_neg (show ¬ (false = true) by decide)] at H; exact H
             clear H
             have H := H1
             clear H1
             have H' := Aside0.mk H
             clear H
             go_wp2_with (first | ((with_reducible refine gate_callee (f := 30) rfl ?_); refine goesL_ (some 64) rfl rfl Tryz.func30 (by kernel_rfl) rfl #[.string (t160 ++ (t162.extract 1 t162.size)), .int .i64 a1] rfl (by (try simp only [List.map_toArray, List.map_cons, List.map_nil]); first | done | rfl | (simp only [List.length_drop, List.length_take]; rfl)) ?_; (with_reducible refine (texts_filled.calls (t160 ++ (t162.extract 1 t162.size)) a1 t164 false _ A31.out).mono ?_); rintro e w34 ⟨rfl, hb⟩; refine ⟨_, rfl, ?_⟩; replace BK156 := Aside0.mk (bb BK156 hb); replace HB := Aside0.mk (below_step (bw HB) hb); (try clear hb); (try clear hb2); (try clear hk); (try clear hi)))
             go_roundg kj19
             case measure => have := HJ3.out; have := HK2.out; have := HJ19.out; omega
             case rel => exact ⟨(wrap64 (x2_2 - 1)), (by first | rfl | (simp; done) | (simp [*]; done)), H', ⟨by have := HJ3.out; have := HK2.out; have := HJ19.out; omega⟩, ⟨by (with_reducible repeat (first | refine blk_drewN ?_ _ | refine blk_drew ?_ | refine blk_alloc ?_ _)); exact BK156.out⟩, ⟨bw HB⟩⟩
           ·rw [if_neg c30] at H
            exact absurd H (by simp)
          ·rw [if_neg c29] at H
           exact absurd H (by simp)
         ·replace c28 := Bool.eq_false_iff.mpr c28
          subst c28
          have H1 : (if t160.size + t162.size ≤ 9223372036854775807 then ((texts_filled.f (t160 ++ t162) a1).bind fun bt166 => (if bt166.2 = true then (some bt166.1) else (texts_Fixed.l0 kj19 a1 (wrap64 (x2_2 - 1)) t160 a0_0 a0_1))) else (none)) = some r := by rw [if_neg (show ¬ (false = true) by decide)] at H; exact H
          clear H
          have H := H1
          clear H1
          by_cases c35 : t160.size + t162.size ≤ 9223372036854775807
          ·rw [if_pos c35] at H
           have c35b0 := eq_true c35
           have c35b1 : decide (t160.size + t162.size ≤ 9223372036854775807) = true := decide_eq_true c35
           try have c35b2 : (9223372036854775807 < t160.size + t162.size) = False := eq_false (Nat.not_lt.2 c35)
           replace H := Option.bind_eq_some_iff.mp H
           obtain ⟨⟨t166, t167⟩, A360, H⟩ := H
           replace H : (if t167 = true then (some t166) else (texts_Fixed.l0 kj19 a1 (wrap64 (x2_2 - 1)) t160 a0_0 a0_1)) = some r := H
           have A36 := Aside0.mk A360
           clear A360
           by_cases c37 : t167 = true
           ·subst c37
            have H1 : (some t166) = some r := by rw [if_pos rfl] at H; exact H
            clear H
            have H := H1
            clear H1
            obtain rfl := Option.some.inj H
            go_wp2_with (first | ((with_reducible refine gate_callee (f := 30) rfl ?_); refine goesL_ (some 64) rfl rfl Tryz.func30 (by kernel_rfl) rfl #[.string (t160 ++ t162), .int .i64 a1] rfl (by (try simp only [List.map_toArray, List.map_cons, List.map_nil]); first | done | rfl | (simp only [List.length_drop, List.length_take]; rfl)) ?_; (with_reducible refine (texts_filled.calls (t160 ++ t162) a1 t166 true _ A36.out).mono ?_); rintro e w38 ⟨rfl, hb⟩; refine ⟨_, rfl, ?_⟩; replace BK156 := Aside0.mk (bb BK156 hb); replace HB := Aside0.mk (below_step (bw HB) hb); (try clear hb); (try clear hb2); (try clear hk); (try clear hi)))
            go_ret
            exact ⟨by first | rfl | (simp [errW_none, errW_some] <;> rfl) | (simp [*, errW_none, errW_some] <;> rfl), bw HB⟩
           ·replace c37 := Bool.eq_false_iff.mpr c37
            subst c37
            have H1 : (texts_Fixed.l0 kj19 a1 (wrap64 (x2_2 - 1)) t160 a0_0 a0_1) = some r := by rw [if_neg (show ¬ (false = true) by decide)] at H; exact H
            clear H
            have H := H1
            clear H1
            have H' := Aside0.mk H
            clear H
            go_wp2_with (first | ((with_reducible refine gate_callee (f := 30) rfl ?_); refine goesL_ (some 64) rfl rfl Tryz.func30 (by kernel_rfl) rfl #[.string (t160 ++ t162), .int .i64 a1] rfl (by (try simp only [List.map_toArray, List.map_cons, List.map_nil]); first | done | rfl | (simp only [List.length_drop, List.length_take]; rfl)) ?_; (with_reducible refine (texts_filled.calls (t160 ++ t162) a1 t166 false _ A36.out).mono ?_); rintro e w39 ⟨rfl, hb⟩; refine ⟨_, rfl, ?_⟩; replace BK156 := Aside0.mk (bb BK156 hb); replace HB := Aside0.mk (below_step (bw HB) hb); (try clear hb); (try clear hb2); (try clear hk); (try clear hi)))
            go_roundg kj19
            case measure => have := HJ3.out; have := HK2.out; have := HJ19.out; omega
            case rel => exact ⟨(wrap64 (x2_2 - 1)), (by first | rfl | (simp; done) | (simp [*]; done)), H', ⟨by have := HJ3.out; have := HK2.out; have := HJ19.out; omega⟩, ⟨by (with_reducible repeat (first | refine blk_drewN ?_ _ | refine blk_drew ?_ | refine blk_alloc ?_ _)); exact BK156.out⟩, ⟨bw HB⟩⟩
          ·rw [if_neg c35] at H
           exact absurd H (by simp)
      ·rw [if_neg c18] at H
       have c18b0 : decide (0 ≤ x2_2) = false := decide_eq_false c18
       clear c18
       replace H := Option.bind_eq_some_iff.mp H
       obtain ⟨t161, A400, H⟩ := H
       replace H : (some t161) = some r := H
       have A40 := Aside0.mk A400
       clear A400
       obtain rfl := Option.some.inj H
       go_wp2_with (first | ((with_reducible refine gate_callee (f := 29) rfl ?_); refine goesL_ (some 70) rfl rfl Tryz.func29 (by kernel_rfl) rfl #[.int .i64 a1] rfl (by (try simp only [List.map_toArray, List.map_cons, List.map_nil]); first | done | rfl | (simp only [List.length_drop, List.length_take]; rfl)) ?_; (with_reducible refine (texts_stars.calls a1 t161 _ A40.out).mono ?_); rintro e w41 ⟨rfl, hb⟩; refine ⟨_, rfl, ?_⟩; replace BK156 := Aside0.mk (bb BK156 hb); replace HB := Aside0.mk (below_step (bw HB) hb); (try clear hb); (try clear hb2); (try clear hk); (try clear hi)))
       go_ret
       exact ⟨by first | rfl | (simp [errW_none, errW_some] <;> rfl) | (simp [*, errW_none, errW_some] <;> rfl), bw HB⟩
end Go.Proofs.YtckbmniiecbalaaGreatDoor.PT
