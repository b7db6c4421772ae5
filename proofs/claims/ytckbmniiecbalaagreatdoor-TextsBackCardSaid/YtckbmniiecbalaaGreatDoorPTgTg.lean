-- written by a program of this session out of the kit's print (its words and its form)
import Derived.Test.YtckbmniiecbalaaGreatDoorPTgA
import Derived.Test.YtckbmniiecbalaaGreatDoorPTgE
import Derived.Test.YtckbmniiecbalaaGreatDoorPTgSa
import Derived.Test.YtckbmniiecbalaaGreatDoorPTgTe
import Derived.Test.YtckbmniiecbalaaGreatDoorPTgTf
import Derived.Test.YtckbmniiecbalaaGreatDoorPTsq
import Derived.Test.YtckbmniiecbalaaGreatDoorPTx0
namespace Go.Proofs.YtckbmniiecbalaaGreatDoor.PT
open Go.RowKit Go.Proofs.YtckbmniiecbalaaGreatDoorW.PrintWords Go.Proofs.YtckbmniiecbalaaGreatDoorW.PrintLast Go.Proofs.YtckbmniiecbalaaGreatDoorW.PrintMore
attribute [local go_sem] max2_int min2_int max_two min_two max_three min_three max_four min_four   -- for this text's walks alone
set_option linter.unusedVariables false
set_option linter.unusedSimpArgs false

/-! ### texts_rounded: function 74 -/
def texts_rounded.j0 : Nat → Int → ByteArray → Int → Int → Bool → Option (Int × Int × Int)
 | 0, _, _, _, _, _ => none
 | k + 1, x0, x1, x2, x10, x37 => if x37 = true then (some (0, 0, 0)) else (if 0 ≤ (wrap64 ((x1.size : Int) - x10)) then (if (wrap64 ((x1.size : Int) - x10)) ≤ (x1.size : Int) then ((texts_number.f (x1.extract 0 ((wrap64 ((x1.size : Int) - x10)) : Int).toNat) 10 4611686018427387904).bind fun bt259 => (if (x1.extract ((wrap64 ((x1.size : Int) - x10)) : Int).toNat x1.size).toList = ([] : List UInt8) then ((reals_Make.f k x0 0 bt259.1 (wrap64 (x2 + x10))).bind fun bt261 => (some (bt261.1, bt261.2.1, bt261.2.2))) else ((strings_TrimRight.f (x1.extract ((wrap64 ((x1.size : Int) - x10)) : Int).toNat x1.size) (⟨#[48]⟩ : ByteArray)).bind fun t264 => ((strings_Compare.f t264 (⟨#[53]⟩ : ByteArray)).bind fun t265 => (if t265 > 0 then ((reals_Make.f k x0 0 (wrap64 (bt259.1 + 1)) (wrap64 (x2 + x10))).bind fun bt266 => (some (bt266.1, bt266.2.1, bt266.2.2))) else (if t265 = 0 then (if (Int.tmod bt259.1 2) = 1 then ((reals_Make.f k x0 0 (wrap64 (bt259.1 + 1)) (wrap64 (x2 + x10))).bind fun bt269 => (some (bt269.1, bt269.2.1, bt269.2.2))) else ((reals_Make.f k x0 0 bt259.1 (wrap64 (x2 + x10))).bind fun bt272 => (some (bt272.1, bt272.2.1, bt272.2.2)))) else ((reals_Make.f k x0 0 bt259.1 (wrap64 (x2 + x10))).bind fun bt275 => (some (bt275.1, bt275.2.1, bt275.2.2))))))))) else (none)) else (none))
def texts_rounded.f (k : Nat) (a0 : Int) (a1 : ByteArray) (a2 : Int) : Option (Int × Int × Int) := (reals_Digits.f a0).bind fun bt256 => ((strings_TrimLeft.f a1 (⟨#[48]⟩ : ByteArray)).bind fun t258 => (if t258.toList = ([] : List UInt8) then (texts_rounded.j0 k a0 t258 a2 (mx (mx (wrap64 ((t258.size : Int) - bt256.1)) (wrap64 ((-400) - a2))) 0) true) else (texts_rounded.j0 k a0 t258 a2 (mx (mx (wrap64 ((t258.size : Int) - bt256.1)) (wrap64 ((-400) - a2))) 0) (decide ((mx (mx (wrap64 ((t258.size : Int) - bt256.1)) (wrap64 ((-400) - a2))) 0) > (t258.size : Int))))))
theorem texts_rounded.mono_l : ∀ k, (∀ y0 y1 y2 y3 y4, LeO (texts_rounded.j0 k y0 y1 y2 y3 y4) (texts_rounded.j0 (k + 1) y0 y1 y2 y3 y4))
 | 0 => fun _ _ _ _ _ r h => by simp [texts_rounded.j0] at h
 | k + 1 => by
  have ih0 := texts_rounded.mono_l k
  ·intro y0 y1 y2 y3 y4
   unfold texts_rounded.j0
   repeat' first
   | (with_reducible exact ih0 _ _ _ _ _)
   | (with_reducible exact reals_Make.mono _ _ _ _ _)
   | (with_reducible exact LeO.refl _)
   | (with_reducible exact LeO.none _)
   | (with_reducible refine LeO.ite ?_ ?_)
   | (with_reducible refine LeO.bind ?_ (fun _ => ?_))
   | exact ih0 _ _ _ _ _
   | exact reals_Make.mono _ _ _ _ _
   | exact LeO.none _
   | refine LeO.ite ?_ ?_
   | refine LeO.bind ?_ (fun _ => ?_)
theorem texts_rounded.mono : ∀ a0 a1 a2 k, LeO (texts_rounded.f k a0 a1 a2) (texts_rounded.f (k + 1) a0 a1 a2) := by
 intro a0 a1 a2 k
 have ih0 := texts_rounded.mono_l k
 unfold texts_rounded.f
 repeat' first
   | (with_reducible exact ih0 _ _ _ _ _)
   | (with_reducible exact reals_Make.mono _ _ _ _ _)
   | (with_reducible exact LeO.refl _)
   | (with_reducible exact LeO.none _)
   | (with_reducible refine LeO.ite ?_ ?_)
   | (with_reducible refine LeO.bind ?_ (fun _ => ?_))
   | exact ih0 _ _ _ _ _
   | exact reals_Make.mono _ _ _ _ _
   | exact LeO.none _
   | refine LeO.ite ?_ ?_
   | refine LeO.bind ?_ (fun _ => ?_)
set_option maxHeartbeats 8000000 in
set_option maxRecDepth 100000 in
theorem texts_rounded.calls (k : Nat) (a0 : Int) (a1 : ByteArray) (a2 : Int) (r1 : Int) (r2 : Int) (r3 : Int) (w : World) (h : texts_rounded.f k a0 a1 a2 = some (r1, r2, r3)) :
  Calls Tryz.prog 74 #[.int .i64 a0, .string a1, .int .i64 a2] w fun e w' => e = .returned (.tuple #[.agg #[.int .i64 r1, .int .i64 r2], .int .i64 r3]) ∧ Below w.heap.size w w' := by
 have hu23 := Tryz.underlying23
 have HB := Aside0.mk (Below.refl w.heap.size w)
 have H : ((reals_Digits.f a0).bind fun bt256 => ((strings_TrimLeft.f a1 (⟨#[48]⟩ : ByteArray)).bind fun t258 => (if t258.toList = ([] : List UInt8) then (texts_rounded.j0 k a0 t258 a2 (mx (mx (wrap64 ((t258.size : Int) - bt256.1)) (wrap64 ((-400) - a2))) 0) true) else (texts_rounded.j0 k a0 t258 a2 (mx (mx (wrap64 ((t258.size : Int) - bt256.1)) (wrap64 ((-400) - a2))) 0) (decide ((mx (mx (wrap64 ((t258.size : Int) - bt256.1)) (wrap64 ((-400) - a2))) 0) > (t258.size : Int))))))) = some (r1, r2, r3) := h
 clear h
 replace H := Option.bind_eq_some_iff.mp H
 obtain ⟨⟨t256, t257⟩, A40, H⟩ := H
 replace H : ((strings_TrimLeft.f a1 (⟨#[48]⟩ : ByteArray)).bind fun t258 => (if t258.toList = ([] : List UInt8) then (texts_rounded.j0 k a0 t258 a2 (mx (mx (wrap64 ((t258.size : Int) - t256)) (wrap64 ((-400) - a2))) 0) true) else (texts_rounded.j0 k a0 t258 a2 (mx (mx (wrap64 ((t258.size : Int) - t256)) (wrap64 ((-400) - a2))) 0) (decide ((mx (mx (wrap64 ((t258.size : Int) - t256)) (wrap64 ((-400) - a2))) 0) > (t258.size : Int)))))) = some (r1, r2, r3) := H
 have A4 := Aside0.mk A40
 clear A40
 replace H := Option.bind_eq_some_iff.mp H
 obtain ⟨t258, A50, H⟩ := H
 replace H : (if t258.toList = ([] : List UInt8) then (texts_rounded.j0 k a0 t258 a2 (mx (mx (wrap64 ((t258.size : Int) - t256)) (wrap64 ((-400) - a2))) 0) true) else (texts_rounded.j0 k a0 t258 a2 (mx (mx (wrap64 ((t258.size : Int) - t256)) (wrap64 ((-400) - a2))) 0) (decide ((mx (mx (wrap64 ((t258.size : Int) - t256)) (wrap64 ((-400) - a2))) 0) > (t258.size : Int))))) = some (r1, r2, r3) := H
 have A5 := Aside0.mk A50
 clear A50
 obtain ⟨ji6, hji6⟩ : ∃ j_ : Int, (mx (wrap64 ((t258.size : Int) - t256)) (wrap64 ((-400) - a2))) = j_ := ⟨_, rfl⟩
 replace H : (if t258.toList = ([] : List UInt8) then (texts_rounded.j0 k a0 t258 a2 (mx (ji6) 0) true) else (texts_rounded.j0 k a0 t258 a2 (mx (ji6) 0) (decide ((mx (ji6) 0) > (t258.size : Int))))) = some (r1, r2, r3) := by first | (rw [hji6] at H; exact H) | (simp only [hji6] at H ⊢; exact H)
 (try rw [hji6] at A4)
 (try rw [hji6] at A5)
 have hji6_ : (if (wrap64 ((t258.size : Int) - t256)) < (wrap64 ((-400) - a2)) then (wrap64 ((-400) - a2)) else (wrap64 ((t258.size : Int) - t256))) = ji6 := hji6
 obtain ⟨ji7, hji7⟩ : ∃ j_ : Int, (mx (ji6) 0) = j_ := ⟨_, rfl⟩
 replace H : (if t258.toList = ([] : List UInt8) then (texts_rounded.j0 k a0 t258 a2 ji7 true) else (texts_rounded.j0 k a0 t258 a2 ji7 (decide ((ji7) > (t258.size : Int))))) = some (r1, r2, r3) := by first | (rw [hji7] at H; exact H) | (simp only [hji7] at H ⊢; exact H)
 (try rw [hji7] at A4)
 (try rw [hji7] at A5)
 have hji7_ : (if (ji6) < 0 then 0 else (ji6)) = ji7 := hji7
 have HC8 := Aside0.mk H
 clear H
 go_enter Tryz.func74, Tryz.ntmps74
 go_upto_region 4 with (first | ((with_reducible refine gate_dst (N := 6) rfl ?_); (try (refine gate_guard (by rfl) ?_; dsimp only)); refine box_event ?hg (N := 6) ?hd (cs := #[.int .i64 0, .int .i64 0]) (t := 23) ?hr ?_; (case hd => rfl); (case hg => rfl); (case hr => first | (go_simp; done) | (go_simp; rfl)); intro gb255 hg w9 hbox hb; have BK255 := Aside0.mk (hbox); have GW255 := Aside0.mk (bs HB hg : w.heap.size ≤ gb255); replace HB := Aside0.mk (below_step (bw HB) hb); clear hb hbox hg) | (go_at_call 106; (with_reducible refine (reals_Digits.calls a0 t256 t257 _ A4.out).mono ?_); rintro e w' ⟨rfl, ⟨nd, rfl⟩⟩; (try first | exact ⟨rfl, _, World.drewN_drewN _ _ _⟩ | exact ⟨rfl, _, Eq.trans (World.drewN_drewN _ _ _) (congrArg (World.drewN _) (Nat.add_assoc _ _ _))⟩)) | (go_at_call 84; (with_reducible refine (strings_TrimLeft.calls a1 (⟨#[48]⟩ : ByteArray) t258 _ A5.out).mono ?_); rintro e w10 ⟨rfl, hb⟩; replace BK255 := Aside0.mk (bb BK255 hb); replace HB := Aside0.mk (below_step (bw HB) hb); (try clear hb); (try clear hb2); (try clear hk); (try clear hi)))
 repeat (go_quiet (first | ((with_reducible refine gate_dst (N := 6) rfl ?_); (try (refine gate_guard (by rfl) ?_; dsimp only)); refine box_event ?hg (N := 6) ?hd (cs := #[.int .i64 0, .int .i64 0]) (t := 23) ?hr ?_; (case hd => rfl); (case hg => rfl); (case hr => first | (go_simp; done) | (go_simp; rfl)); intro gb255 hg w9 hbox hb; have BK255 := Aside0.mk (hbox); have GW255 := Aside0.mk (bs HB hg : w.heap.size ≤ gb255); replace HB := Aside0.mk (below_step (bw HB) hb); clear hb hbox hg) | (go_at_call 106; (with_reducible refine (reals_Digits.calls a0 t256 t257 _ A4.out).mono ?_); rintro e w' ⟨rfl, ⟨nd, rfl⟩⟩; (try first | exact ⟨rfl, _, World.drewN_drewN _ _ _⟩ | exact ⟨rfl, _, Eq.trans (World.drewN_drewN _ _ _) (congrArg (World.drewN _) (Nat.add_assoc _ _ _))⟩)) | (go_at_call 84; (with_reducible refine (strings_TrimLeft.calls a1 (⟨#[48]⟩ : ByteArray) t258 _ A5.out).mono ?_); rintro e w10 ⟨rfl, hb⟩; replace BK255 := Aside0.mk (bb BK255 hb); replace HB := Aside0.mk (below_step (bw HB) hb); (try clear hb); (try clear hb2); (try clear hk); (try clear hi))); go_upto_region 4 with (first | ((with_reducible refine gate_dst (N := 6) rfl ?_); (try (refine gate_guard (by rfl) ?_; dsimp only)); refine box_event ?hg (N := 6) ?hd (cs := #[.int .i64 0, .int .i64 0]) (t := 23) ?hr ?_; (case hd => rfl); (case hg => rfl); (case hr => first | (go_simp; done) | (go_simp; rfl)); intro gb255 hg w9 hbox hb; have BK255 := Aside0.mk (hbox); have GW255 := Aside0.mk (bs HB hg : w.heap.size ≤ gb255); replace HB := Aside0.mk (below_step (bw HB) hb); clear hb hbox hg) | (go_at_call 106; (with_reducible refine (reals_Digits.calls a0 t256 t257 _ A4.out).mono ?_); rintro e w' ⟨rfl, ⟨nd, rfl⟩⟩; (try first | exact ⟨rfl, _, World.drewN_drewN _ _ _⟩ | exact ⟨rfl, _, Eq.trans (World.drewN_drewN _ _ _) (congrArg (World.drewN _) (Nat.add_assoc _ _ _))⟩)) | (go_at_call 84; (with_reducible refine (strings_TrimLeft.calls a1 (⟨#[48]⟩ : ByteArray) t258 _ A5.out).mono ?_); rintro e w10 ⟨rfl, hb⟩; replace BK255 := Aside0.mk (bb BK255 hb); replace HB := Aside0.mk (below_step (bw HB) hb); (try clear hb); (try clear hb2); (try clear hk); (try clear hi))))
 (try simp only [sx])
 go_cut [37] (fun v37 wc => ∃ (kq : Nat) (x37_7 : Bool), v37 = .bool x37_7 ∧ Aside0 (texts_rounded.j0 kq a0 t258 a2 ji7 x37_7 = some (r1, r2, r3)) ∧ Aside0 (kq ≤ k) ∧ Aside0 (wc.heap[gb255]? = some (.cells #[.int .i64 0, .int .i64 0] 23 (0, 0))) ∧ Aside0 (Below w.heap.size w wc))
 case first =>
  have H := HC8.out
  clear HC8
  by_cases c11 : t258.toList = ([] : List UInt8)
  ·rw [if_pos c11] at H
   have c11b0 : (t258.toList == ([] : List UInt8)) = true := beq_iff_eq.mpr c11
   have c11b1 : (t258.toList != ([] : List UInt8)) = false := bne_eq_false_iff_eq.mpr c11
   clear c11
   (first | rw [c11b0] | (simp only [i64_w, i32_w]; rw [c11b0]) | skip)
   have H' := Aside0.mk H
   clear H
   go_wp2
   repeat (go_quiet (fail); try go_wp2)
   go_meet
   case rel => exact ⟨_, (true), (by first | rfl | (simp; done) | (simp [*]; done)), H', ⟨by first | omega | exact Nat.le_refl _⟩, ⟨by (with_reducible repeat (first | refine blk_drewN ?_ _ | refine blk_drew ?_ | refine blk_alloc ?_ _)); exact BK255.out⟩, ⟨bw HB⟩⟩
  ·rw [if_neg c11] at H
   have c11b0 : (t258.toList == ([] : List UInt8)) = false := beq_eq_false_iff_ne.mpr c11
   have c11b1 : (t258.toList != ([] : List UInt8)) = true := bne_iff_ne.mpr c11
   (first | rw [c11b0] | (simp only [i64_w, i32_w]; rw [c11b0]) | skip)
   have H' := Aside0.mk H
   clear H
   go_wp2
   repeat (go_quiet (fail); try go_wp2)
   go_meet
   case rel => exact ⟨_, (decide ((ji7) > (t258.size : Int))), (by first | rfl | (simp; done) | (simp only [← hji7] <;> (first | rfl | simp)) | (simp [*]; done)), H', ⟨by first | omega | exact Nat.le_refl _⟩, ⟨by (with_reducible repeat (first | refine blk_drewN ?_ _ | refine blk_drew ?_ | refine blk_alloc ?_ _)); exact BK255.out⟩, ⟨bw HB⟩⟩
 case rest =>
  clear HC8
  try clear c1
  try clear p2
  try clear p6
  try clear c7
  try clear c11
  try clear c11b0
  try clear c11b1
  obtain ⟨kq, x37_7, rfl, HA, HJ7, BK255, HB⟩ := hcut
  cases kq with
  | zero => exact absurd HA.out (by simp [texts_rounded.j0])
  | succ kj7 =>
   have H := HA.out
   clear HA
   simp only [texts_rounded.j0] at H
   by_cases c12 : x37_7 = true
   ·subst c12
    have H1 : (some (0, 0, 0)) = some (r1, r2, r3) := by rw [if_pos rfl] at H; exact H
    clear H
    have H := H1
    clear H1
    simp only [Option.some.injEq, Prod.mk.injEq] at H
    obtain ⟨rfl, rfl, rfl⟩ := H
    have hcz13_0 : wc.cell? ⟨gb255, 0, none⟩ = some (.int .i64 0) := (blk_cell BK255.out 0).trans rfl
    have hcz13_1 : wc.cell? ⟨gb255, 1, none⟩ = some (.int .i64 0) := (blk_cell BK255.out 1).trans rfl
    have hfz13_0 := blk_frozen BK255.out 0
    have hfz13_1 := blk_frozen BK255.out 1
    go_wp2
    repeat (go_quiet (fail); try go_wp2)
    refine bodyPost_ret (results_ct rfl _ _ gb255 23 #[.int .i64 0, .int .i64 0] (0, 0) _ rfl (by (with_reducible repeat (first | refine blk_drewN ?_ _ | refine blk_drew ?_ | refine blk_alloc ?_ _)); refine blk_put (cs := #[.int .i64 0, .int .i64 0]) ?_ 1 _ rfl; (with_reducible repeat (first | refine blk_drewN ?_ _ | refine blk_drew ?_ | refine blk_alloc ?_ _)); refine blk_put (cs := #[.int .i64 0, .int .i64 0]) ?_ 0 _ rfl; (with_reducible repeat (first | refine blk_drewN ?_ _ | refine blk_drew ?_ | refine blk_alloc ?_ _)); exact BK255.out) Tryz.underlying23 rfl (by kernel_rfl)) rfl ?_
    exact ⟨by first | rfl | (simp [errW_none, errW_some] <;> rfl) | (simp only [← hji6, ← hji7]; first | rfl | (simp [errW_none, errW_some] <;> rfl)) | (simp [*, errW_none, errW_some] <;> rfl), bw HB⟩
   ·replace c12 := Bool.eq_false_iff.mpr c12
    subst c12
    have H1 : (if 0 ≤ (wrap64 ((t258.size : Int) - ji7)) then (if (wrap64 ((t258.size : Int) - ji7)) ≤ (t258.size : Int) then ((texts_number.f (t258.extract 0 ((wrap64 ((t258.size : Int) - ji7)) : Int).toNat) 10 4611686018427387904).bind fun bt259 => (if (t258.extract ((wrap64 ((t258.size : Int) - ji7)) : Int).toNat t258.size).toList = ([] : List UInt8) then ((reals_Make.f kj7 a0 0 bt259.1 (wrap64 (a2 + ji7))).bind fun bt261 => (some (bt261.1, bt261.2.1, bt261.2.2))) else ((strings_TrimRight.f (t258.extract ((wrap64 ((t258.size : Int) - ji7)) : Int).toNat t258.size) (⟨#[48]⟩ : ByteArray)).bind fun t264 => ((strings_Compare.f t264 (⟨#[53]⟩ : ByteArray)).bind fun t265 => (if t265 > 0 then ((reals_Make.f kj7 a0 0 (wrap64 (bt259.1 + 1)) (wrap64 (a2 + ji7))).bind fun bt266 => (some (bt266.1, bt266.2.1, bt266.2.2))) else (if t265 = 0 then (if (Int.tmod bt259.1 2) = 1 then ((reals_Make.f kj7 a0 0 (wrap64 (bt259.1 + 1)) (wrap64 (a2 + ji7))).bind fun bt269 => (some (bt269.1, bt269.2.1, bt269.2.2))) else ((reals_Make.f kj7 a0 0 bt259.1 (wrap64 (a2 + ji7))).bind fun bt272 => (some (bt272.1, bt272.2.1, bt272.2.2)))) else ((reals_Make.f kj7 a0 0 bt259.1 (wrap64 (a2 + ji7))).bind fun bt275 => (some (bt275.1, bt275.2.1, bt275.2.2))))))))) else (none)) else (none)) = some (r1, r2, r3) := by rw [if_neg (show ¬ (false = true) by decide)] at H; exact H
    clear H
    have H := H1
    clear H1
    obtain ⟨ji14, hji14⟩ : ∃ j_ : Int, (wrap64 ((t258.size : Int) - ji7)) = j_ := ⟨_, rfl⟩
    replace H : (if 0 ≤ (ji14) then (if (ji14) ≤ (t258.size : Int) then ((texts_number.f (t258.extract 0 ((ji14) : Int).toNat) 10 4611686018427387904).bind fun bt259 => (if (t258.extract ((ji14) : Int).toNat t258.size).toList = ([] : List UInt8) then ((reals_Make.f kj7 a0 0 bt259.1 (wrap64 (a2 + ji7))).bind fun bt261 => (some (bt261.1, bt261.2.1, bt261.2.2))) else ((strings_TrimRight.f (t258.extract ((ji14) : Int).toNat t258.size) (⟨#[48]⟩ : ByteArray)).bind fun t264 => ((strings_Compare.f t264 (⟨#[53]⟩ : ByteArray)).bind fun t265 => (if t265 > 0 then ((reals_Make.f kj7 a0 0 (wrap64 (bt259.1 + 1)) (wrap64 (a2 + ji7))).bind fun bt266 => (some (bt266.1, bt266.2.1, bt266.2.2))) else (if t265 = 0 then (if (Int.tmod bt259.1 2) = 1 then ((reals_Make.f kj7 a0 0 (wrap64 (bt259.1 + 1)) (wrap64 (a2 + ji7))).bind fun bt269 => (some (bt269.1, bt269.2.1, bt269.2.2))) else ((reals_Make.f kj7 a0 0 bt259.1 (wrap64 (a2 + ji7))).bind fun bt272 => (some (bt272.1, bt272.2.1, bt272.2.2)))) else ((reals_Make.f kj7 a0 0 bt259.1 (wrap64 (a2 + ji7))).bind fun bt275 => (some (bt275.1, bt275.2.1, bt275.2.2))))))))) else (none)) else (none)) = some (r1, r2, r3) := by first | (rw [hji14] at H; exact H) | (simp only [hji14] at H ⊢; exact H)
    have hji14w : (IntKind.i64.wrap ((t258.size : Int) - ji7)) = ji14 := (i64_w _).trans hji14
    by_cases c15 : 0 ≤ (ji14)
    ·rw [if_pos c15] at H
     have c15b0 := eq_true c15
     have c15b1 : decide (0 ≤ (ji14)) = true := decide_eq_true c15
     clear c15
     by_cases c16 : (ji14) ≤ (t258.size : Int)
     ·rw [if_pos c16] at H
      have c16b0 := eq_true c16
      have c16b1 : decide ((ji14) ≤ (t258.size : Int)) = true := decide_eq_true c16
      clear c16
      have c17b0 := eq_true (of_decide_eq_true (by first | (with_reducible assumption) | assumption) : 0 ≤ (ji14))
      have c18b0 := eq_true (of_decide_eq_true (by first | (with_reducible assumption) | assumption) : (ji14) ≤ (t258.size : Int))
      replace H := Option.bind_eq_some_iff.mp H
      obtain ⟨⟨t259, t260⟩, A190, H⟩ := H
      replace H : (if (t258.extract ((ji14) : Int).toNat t258.size).toList = ([] : List UInt8) then ((reals_Make.f kj7 a0 0 t259 (wrap64 (a2 + ji7))).bind fun bt261 => (some (bt261.1, bt261.2.1, bt261.2.2))) else ((strings_TrimRight.f (t258.extract ((ji14) : Int).toNat t258.size) (⟨#[48]⟩ : ByteArray)).bind fun t264 => ((strings_Compare.f t264 (⟨#[53]⟩ : ByteArray)).bind fun t265 => (if t265 > 0 then ((reals_Make.f kj7 a0 0 (wrap64 (t259 + 1)) (wrap64 (a2 + ji7))).bind fun bt266 => (some (bt266.1, bt266.2.1, bt266.2.2))) else (if t265 = 0 then (if (Int.tmod t259 2) = 1 then ((reals_Make.f kj7 a0 0 (wrap64 (t259 + 1)) (wrap64 (a2 + ji7))).bind fun bt269 => (some (bt269.1, bt269.2.1, bt269.2.2))) else ((reals_Make.f kj7 a0 0 t259 (wrap64 (a2 + ji7))).bind fun bt272 => (some (bt272.1, bt272.2.1, bt272.2.2)))) else ((reals_Make.f kj7 a0 0 t259 (wrap64 (a2 + ji7))).bind fun bt275 => (some (bt275.1, bt275.2.1, bt275.2.2)))))))) = some (r1, r2, r3) := H
      have A19 := Aside0.mk A190
      clear A190
      by_cases c20 : (t258.extract ((ji14) : Int).toNat t258.size).toList = ([] : List UInt8)
      ·rw [if_pos c20] at H
       have c20b0 : ((t258.extract ((ji14) : Int).toNat t258.size).toList == ([] : List UInt8)) = true := beq_iff_eq.mpr c20
       have c20b1 : ((t258.extract ((ji14) : Int).toNat t258.size).toList != ([] : List UInt8)) = false := bne_eq_false_iff_eq.mpr c20
       clear c20
       replace H := Option.bind_eq_some_iff.mp H
       obtain ⟨⟨t261, t262, t263⟩, A210, H⟩ := H
       replace H : (some (t261, t262, t263)) = some (r1, r2, r3) := H
       have A21 := Aside0.mk A210
       clear A210
       simp only [Option.some.injEq, Prod.mk.injEq] at H
       obtain ⟨rfl, rfl, rfl⟩ := H
       go_wp2_with (first | (go_at_call 98; (with_reducible refine (texts_number.calls (t258.extract 0 ((ji14) : Int).toNat) 10 4611686018427387904 t259 t260 _ A19.out).mono ?_); rintro e w22 ⟨rfl, hb⟩; replace BK255 := Aside0.mk (bb BK255 hb); replace HB := Aside0.mk (below_step (bw HB) hb); (try clear hb); (try clear hb2); (try clear hk); (try clear hi)) | (go_at_call 109; (with_reducible refine (reals_Make.calls kj7 a0 0 t259 (wrap64 (a2 + ji7)) t261 t262 t263 _ A21.out).mono ?_); rintro e w23 ⟨rfl, hb⟩; replace BK255 := Aside0.mk (bb BK255 hb); replace HB := Aside0.mk (below_step (bw HB) hb); (try clear hb); (try clear hb2); (try clear hk); (try clear hi); obtain ⟨hcz24_0, hcz24_1, hfz24_0, hfz24_1⟩ := cf2 BK255))
       repeat (go_quiet (first | (go_at_call 98; (with_reducible refine (texts_number.calls (t258.extract 0 ((ji14) : Int).toNat) 10 4611686018427387904 t259 t260 _ A19.out).mono ?_); rintro e w22 ⟨rfl, hb⟩; replace BK255 := Aside0.mk (bb BK255 hb); replace HB := Aside0.mk (below_step (bw HB) hb); (try clear hb); (try clear hb2); (try clear hk); (try clear hi)) | (go_at_call 109; (with_reducible refine (reals_Make.calls kj7 a0 0 t259 (wrap64 (a2 + ji7)) t261 t262 t263 _ A21.out).mono ?_); rintro e w23 ⟨rfl, hb⟩; replace BK255 := Aside0.mk (bb BK255 hb); replace HB := Aside0.mk (below_step (bw HB) hb); (try clear hb); (try clear hb2); (try clear hk); (try clear hi); obtain ⟨hcz24_0, hcz24_1, hfz24_0, hfz24_1⟩ := cf2 BK255)); try go_wp2_with (first | (go_at_call 98; (with_reducible refine (texts_number.calls (t258.extract 0 ((ji14) : Int).toNat) 10 4611686018427387904 t259 t260 _ A19.out).mono ?_); rintro e w22 ⟨rfl, hb⟩; replace BK255 := Aside0.mk (bb BK255 hb); replace HB := Aside0.mk (below_step (bw HB) hb); (try clear hb); (try clear hb2); (try clear hk); (try clear hi)) | (go_at_call 109; (with_reducible refine (reals_Make.calls kj7 a0 0 t259 (wrap64 (a2 + ji7)) t261 t262 t263 _ A21.out).mono ?_); rintro e w23 ⟨rfl, hb⟩; replace BK255 := Aside0.mk (bb BK255 hb); replace HB := Aside0.mk (below_step (bw HB) hb); (try clear hb); (try clear hb2); (try clear hk); (try clear hi); obtain ⟨hcz24_0, hcz24_1, hfz24_0, hfz24_1⟩ := cf2 BK255)))
       refine bodyPost_ret (results_ct rfl _ _ gb255 23 #[.int .i64 t261, .int .i64 t262] (0, 0) _ rfl (by (with_reducible repeat (first | refine blk_drewN ?_ _ | refine blk_drew ?_ | refine blk_alloc ?_ _)); refine blk_put (cs := #[.int .i64 t261, .int .i64 0]) ?_ 1 _ rfl; (with_reducible repeat (first | refine blk_drewN ?_ _ | refine blk_drew ?_ | refine blk_alloc ?_ _)); refine blk_put (cs := #[.int .i64 0, .int .i64 0]) ?_ 0 _ rfl; (with_reducible repeat (first | refine blk_drewN ?_ _ | refine blk_drew ?_ | refine blk_alloc ?_ _)); exact BK255.out) Tryz.underlying23 rfl (by kernel_rfl)) rfl ?_
       exact ⟨by first | rfl | (simp [errW_none, errW_some] <;> rfl) | (simp only [← hji6, ← hji7, ← hji14]; first | rfl | (simp [errW_none, errW_some] <;> rfl)) | (simp [*, errW_none, errW_some] <;> rfl), bw HB⟩
      ·rw [if_neg c20] at H
       have c20b0 : ((t258.extract ((ji14) : Int).toNat t258.size).toList == ([] : List UInt8)) = false := beq_eq_false_iff_ne.mpr c20
       have c20b1 : ((t258.extract ((ji14) : Int).toNat t258.size).toList != ([] : List UInt8)) = true := bne_iff_ne.mpr c20
       replace H := Option.bind_eq_some_iff.mp H
       obtain ⟨t264, A250, H⟩ := H
       replace H : ((strings_Compare.f t264 (⟨#[53]⟩ : ByteArray)).bind fun t265 => (if t265 > 0 then ((reals_Make.f kj7 a0 0 (wrap64 (t259 + 1)) (wrap64 (a2 + ji7))).bind fun bt266 => (some (bt266.1, bt266.2.1, bt266.2.2))) else (if t265 = 0 then (if (Int.tmod t259 2) = 1 then ((reals_Make.f kj7 a0 0 (wrap64 (t259 + 1)) (wrap64 (a2 + ji7))).bind fun bt269 => (some (bt269.1, bt269.2.1, bt269.2.2))) else ((reals_Make.f kj7 a0 0 t259 (wrap64 (a2 + ji7))).bind fun bt272 => (some (bt272.1, bt272.2.1, bt272.2.2)))) else ((reals_Make.f kj7 a0 0 t259 (wrap64 (a2 + ji7))).bind fun bt275 => (some (bt275.1, bt275.2.1, bt275.2.2)))))) = some (r1, r2, r3) := H
       have A25 := Aside0.mk A250
       clear A250
       replace H := Option.bind_eq_some_iff.mp H
       obtain ⟨t265, A260, H⟩ := H
       replace H : (if t265 > 0 then ((reals_Make.f kj7 a0 0 (wrap64 (t259 + 1)) (wrap64 (a2 + ji7))).bind fun bt266 => (some (bt266.1, bt266.2.1, bt266.2.2))) else (if t265 = 0 then (if (Int.tmod t259 2) = 1 then ((reals_Make.f kj7 a0 0 (wrap64 (t259 + 1)) (wrap64 (a2 + ji7))).bind fun bt269 => (some (bt269.1, bt269.2.1, bt269.2.2))) else ((reals_Make.f kj7 a0 0 t259 (wrap64 (a2 + ji7))).bind fun bt272 => (some (bt272.1, bt272.2.1, bt272.2.2)))) else ((reals_Make.f kj7 a0 0 t259 (wrap64 (a2 + ji7))).bind fun bt275 => (some (bt275.1, bt275.2.1, bt275.2.2))))) = some (r1, r2, r3) := H
       have A26 := Aside0.mk A260
       clear A260
       by_cases c27 : t265 > 0
       ·rw [if_pos c27] at H
        have c27b0 : decide (0 < t265) = true := decide_eq_true c27
        clear c27
        replace H := Option.bind_eq_some_iff.mp H
        obtain ⟨⟨t266, t267, t268⟩, A280, H⟩ := H
        replace H : (some (t266, t267, t268)) = some (r1, r2, r3) := H
        have A28 := Aside0.mk A280
        clear A280
        simp only [Option.some.injEq, Prod.mk.injEq] at H
        obtain ⟨rfl, rfl, rfl⟩ := H
        go_wp2_with (first | (go_at_call 98; (with_reducible refine (texts_number.calls (t258.extract 0 ((ji14) : Int).toNat) 10 4611686018427387904 t259 t260 _ A19.out).mono ?_); rintro e w29 ⟨rfl, hb⟩; replace BK255 := Aside0.mk (bb BK255 hb); replace HB := Aside0.mk (below_step (bw HB) hb); (try clear hb); (try clear hb2); (try clear hk); (try clear hi)) | (go_at_call 108; (with_reducible refine (strings_TrimRight.calls (t258.extract ((ji14) : Int).toNat t258.size) (⟨#[48]⟩ : ByteArray) t264 _ A25.out).mono ?_); rintro e w30 ⟨rfl, hb⟩; replace BK255 := Aside0.mk (bb BK255 hb); replace HB := Aside0.mk (below_step (bw HB) hb); (try clear hb); (try clear hb2); (try clear hk); (try clear hi)) | (go_at_call 107; (with_reducible refine (strings_Compare.calls t264 (⟨#[53]⟩ : ByteArray) t265 _ A26.out).mono ?_); rintro e w' ⟨rfl, ⟨nd, rfl⟩⟩; (try first | exact ⟨rfl, _, World.drewN_drewN _ _ _⟩ | exact ⟨rfl, _, Eq.trans (World.drewN_drewN _ _ _) (congrArg (World.drewN _) (Nat.add_assoc _ _ _))⟩)) | (go_at_call 109; (with_reducible refine (reals_Make.calls kj7 a0 0 (wrap64 (t259 + 1)) (wrap64 (a2 + ji7)) t266 t267 t268 _ A28.out).mono ?_); rintro e w31 ⟨rfl, hb⟩; replace BK255 := Aside0.mk (bb BK255 hb); replace HB := Aside0.mk (below_step (bw HB) hb); (try clear hb); (try clear hb2); (try clear hk); (try clear hi); obtain ⟨hcz32_0, hcz32_1, hfz32_0, hfz32_1⟩ := cf2 BK255))
        repeat (go_quiet (first | (go_at_call 98; (with_reducible refine (texts_number.calls (t258.extract 0 ((ji14) : Int).toNat) 10 4611686018427387904 t259 t260 _ A19.out).mono ?_); rintro e w29 ⟨rfl, hb⟩; replace BK255 := Aside0.mk (bb BK255 hb); replace HB := Aside0.mk (below_step (bw HB) hb); (try clear hb); (try clear hb2); (try clear hk); (try clear hi)) | (go_at_call 108; (with_reducible refine (strings_TrimRight.calls (t258.extract ((ji14) : Int).toNat t258.size) (⟨#[48]⟩ : ByteArray) t264 _ A25.out).mono ?_); rintro e w30 ⟨rfl, hb⟩; replace BK255 := Aside0.mk (bb BK255 hb); replace HB := Aside0.mk (below_step (bw HB) hb); (try clear hb); (try clear hb2); (try clear hk); (try clear hi)) | (go_at_call 107; (with_reducible refine (strings_Compare.calls t264 (⟨#[53]⟩ : ByteArray) t265 _ A26.out).mono ?_); rintro e w' ⟨rfl, ⟨nd, rfl⟩⟩; (try first | exact ⟨rfl, _, World.drewN_drewN _ _ _⟩ | exact ⟨rfl, _, Eq.trans (World.drewN_drewN _ _ _) (congrArg (World.drewN _) (Nat.add_assoc _ _ _))⟩)) | (go_at_call 109; (with_reducible refine (reals_Make.calls kj7 a0 0 (wrap64 (t259 + 1)) (wrap64 (a2 + ji7)) t266 t267 t268 _ A28.out).mono ?_); rintro e w31 ⟨rfl, hb⟩; replace BK255 := Aside0.mk (bb BK255 hb); replace HB := Aside0.mk (below_step (bw HB) hb); (try clear hb); (try clear hb2); (try clear hk); (try clear hi); obtain ⟨hcz32_0, hcz32_1, hfz32_0, hfz32_1⟩ := cf2 BK255)); try go_wp2_with (first | (go_at_call 98; (with_reducible refine (texts_number.calls (t258.extract 0 ((ji14) : Int).toNat) 10 4611686018427387904 t259 t260 _ A19.out).mono ?_); rintro e w29 ⟨rfl, hb⟩; replace BK255 := Aside0.mk (bb BK255 hb); replace HB := Aside0.mk (below_step (bw HB) hb); (try clear hb); (try clear hb2); (try clear hk); (try clear hi)) | (go_at_call 108; (with_reducible refine (strings_TrimRight.calls (t258.extract ((ji14) : Int).toNat t258.size) (⟨#[48]⟩ : ByteArray) t264 _ A25.out).mono ?_); rintro e w30 ⟨rfl, hb⟩; replace BK255 := Aside0.mk (bb BK255 hb); replace HB := Aside0.mk (below_step (bw HB) hb); (try clear hb); (try clear hb2); (try clear hk); (try clear hi)) | (go_at_call 107; (with_reducible refine (strings_Compare.calls t264 (⟨#[53]⟩ : ByteArray) t265 _ A26.out).mono ?_); rintro e w' ⟨rfl, ⟨nd, rfl⟩⟩; (try first | exact ⟨rfl, _, World.drewN_drewN _ _ _⟩ | exact ⟨rfl, _, Eq.trans (World.drewN_drewN _ _ _) (congrArg (World.drewN _) (Nat.add_assoc _ _ _))⟩)) | (go_at_call 109; (with_reducible refine (reals_Make.calls kj7 a0 0 (wrap64 (t259 + 1)) (wrap64 (a2 + ji7)) t266 t267 t268 _ A28.out).mono ?_); rintro e w31 ⟨rfl, hb⟩; replace BK255 := Aside0.mk (bb BK255 hb); replace HB := Aside0.mk (below_step (bw HB) hb); (try clear hb); (try clear hb2); (try clear hk); (try clear hi); obtain ⟨hcz32_0, hcz32_1, hfz32_0, hfz32_1⟩ := cf2 BK255)))
        refine bodyPost_ret (results_ct rfl _ _ gb255 23 #[.int .i64 t266, .int .i64 t267] (0, 0) _ rfl (by (with_reducible repeat (first | refine blk_drewN ?_ _ | refine blk_drew ?_ | refine blk_alloc ?_ _)); refine blk_put (cs := #[.int .i64 t266, .int .i64 0]) ?_ 1 _ rfl; (with_reducible repeat (first | refine blk_drewN ?_ _ | refine blk_drew ?_ | refine blk_alloc ?_ _)); refine blk_put (cs := #[.int .i64 0, .int .i64 0]) ?_ 0 _ rfl; (with_reducible repeat (first | refine blk_drewN ?_ _ | refine blk_drew ?_ | refine blk_alloc ?_ _)); exact BK255.out) Tryz.underlying23 rfl (by kernel_rfl)) rfl ?_
        exact ⟨by first | rfl | (simp [errW_none, errW_some] <;> rfl) | (simp only [← hji6, ← hji7, ← hji14]; first | rfl | (simp [errW_none, errW_some] <;> rfl)) | (simp [*, errW_none, errW_some] <;> rfl), bw HB⟩
       ·rw [if_neg c27] at H
        have c27b0 : decide (0 < t265) = false := decide_eq_false c27
        clear c27
        by_cases c33 : t265 = 0
        ·rw [if_pos c33] at H
         have c33b0 : (t265 == 0) = true := beq_iff_eq.mpr c33
         have c33b1 : (t265 != 0) = false := bne_eq_false_iff_eq.mpr c33
         clear c33
         by_cases c34 : (Int.tmod t259 2) = 1
         ·rw [if_pos c34] at H
          have c34b0 : ((Int.tmod t259 2) == 1) = true := beq_iff_eq.mpr c34
          have c34b1 : ((Int.tmod t259 2) != 1) = false := bne_eq_false_iff_eq.mpr c34
          clear c34
          replace H := Option.bind_eq_some_iff.mp H
          obtain ⟨⟨t269, t270, t271⟩, A350, H⟩ := H
          replace H : (some (t269, t270, t271)) = some (r1, r2, r3) := H
          have A35 := Aside0.mk A350
          clear A350
          simp only [Option.some.injEq, Prod.mk.injEq] at H
          obtain ⟨rfl, rfl, rfl⟩ := H
          go_wp2_with (first | (go_at_call 98; (with_reducible refine (texts_number.calls (t258.extract 0 ((ji14) : Int).toNat) 10 4611686018427387904 t259 t260 _ A19.out).mono ?_); rintro e w36 ⟨rfl, hb⟩; replace BK255 := Aside0.mk (bb BK255 hb); replace HB := Aside0.mk (below_step (bw HB) hb); (try clear hb); (try clear hb2); (try clear hk); (try clear hi)) | (go_at_call 108; (with_reducible refine (strings_TrimRight.calls (t258.extract ((ji14) : Int).toNat t258.size) (⟨#[48]⟩ : ByteArray) t264 _ A25.out).mono ?_); rintro e w37 ⟨rfl, hb⟩; replace BK255 := Aside0.mk (bb BK255 hb); replace HB := Aside0.mk (below_step (bw HB) hb); (try clear hb); (try clear hb2); (try clear hk); (try clear hi)) | (go_at_call 107; (with_reducible refine (strings_Compare.calls t264 (⟨#[53]⟩ : ByteArray) t265 _ A26.out).mono ?_); rintro e w' ⟨rfl, ⟨nd, rfl⟩⟩; (try first | exact ⟨rfl, _, World.drewN_drewN _ _ _⟩ | exact ⟨rfl, _, Eq.trans (World.drewN_drewN _ _ _) (congrArg (World.drewN _) (Nat.add_assoc _ _ _))⟩)) | (go_at_call 109; (with_reducible refine (reals_Make.calls kj7 a0 0 (wrap64 (t259 + 1)) (wrap64 (a2 + ji7)) t269 t270 t271 _ A35.out).mono ?_); rintro e w38 ⟨rfl, hb⟩; replace BK255 := Aside0.mk (bb BK255 hb); replace HB := Aside0.mk (below_step (bw HB) hb); (try clear hb); (try clear hb2); (try clear hk); (try clear hi); obtain ⟨hcz39_0, hcz39_1, hfz39_0, hfz39_1⟩ := cf2 BK255))
          repeat (go_quiet (first | (go_at_call 98; (with_reducible refine (texts_number.calls (t258.extract 0 ((ji14) : Int).toNat) 10 4611686018427387904 t259 t260 _ A19.out).mono ?_); rintro e w36 ⟨rfl, hb⟩; replace BK255 := Aside0.mk (bb BK255 hb); replace HB := Aside0.mk (below_step (bw HB) hb); (try clear hb); (try clear hb2); (try clear hk); (try clear hi)) | (go_at_call 108; (with_reducible refine (strings_TrimRight.calls (t258.extract ((ji14) : Int).toNat t258.size) (⟨#[48]⟩ : ByteArray) t264 _ A25.out).mono ?_); rintro e w37 ⟨rfl, hb⟩; replace BK255 := Aside0.mk (bb BK255 hb); replace HB := Aside0.mk (below_step (bw HB) hb); (try clear hb); (try clear hb2); (try clear hk); (try clear hi)) | (go_at_call 107; (with_reducible refine (strings_Compare.calls t264 (⟨#[53]⟩ : ByteArray) t265 _ A26.out).mono ?_); rintro e w' ⟨rfl, ⟨nd, rfl⟩⟩; (try first | exact ⟨rfl, _, World.drewN_drewN _ _ _⟩ | exact ⟨rfl, _, Eq.trans (World.drewN_drewN _ _ _) (congrArg (World.drewN _) (Nat.add_assoc _ _ _))⟩)) | (go_at_call 109; (with_reducible refine (reals_Make.calls kj7 a0 0 (wrap64 (t259 + 1)) (wrap64 (a2 + ji7)) t269 t270 t271 _ A35.out).mono ?_); rintro e w38 ⟨rfl, hb⟩; replace BK255 := Aside0.mk (bb BK255 hb); replace HB := Aside0.mk (below_step (bw HB) hb); (try clear hb); (try clear hb2); (try clear hk); (try clear hi); obtain ⟨hcz39_0, hcz39_1, hfz39_0, hfz39_1⟩ := cf2 BK255)); try go_wp2_with (first | (go_at_call 98; (with_reducible refine (texts_number.calls (t258.extract 0 ((ji14) : Int).toNat) 10 4611686018427387904 t259 t260 _ A19.out).mono ?_); rintro e w36 ⟨rfl, hb⟩; replace BK255 := Aside0.mk (bb BK255 hb); replace HB := Aside0.mk (below_step (bw HB) hb); (try clear hb); (try clear hb2); (try clear hk); (try clear hi)) | (go_at_call 108; (with_reducible refine (strings_TrimRight.calls (t258.extract ((ji14) : Int).toNat t258.size) (⟨#[48]⟩ : ByteArray) t264 _ A25.out).mono ?_); rintro e w37 ⟨rfl, hb⟩; replace BK255 := Aside0.mk (bb BK255 hb); replace HB := Aside0.mk (below_step (bw HB) hb); (try clear hb); (try clear hb2); (try clear hk); (try clear hi)) | (go_at_call 107; (with_reducible refine (strings_Compare.calls t264 (⟨#[53]⟩ : ByteArray) t265 _ A26.out).mono ?_); rintro e w' ⟨rfl, ⟨nd, rfl⟩⟩; (try first | exact ⟨rfl, _, World.drewN_drewN _ _ _⟩ | exact ⟨rfl, _, Eq.trans (World.drewN_drewN _ _ _) (congrArg (World.drewN _) (Nat.add_assoc _ _ _))⟩)) | (go_at_call 109; (with_reducible refine (reals_Make.calls kj7 a0 0 (wrap64 (t259 + 1)) (wrap64 (a2 + ji7)) t269 t270 t271 _ A35.out).mono ?_); rintro e w38 ⟨rfl, hb⟩; replace BK255 := Aside0.mk (bb BK255 hb); replace HB := Aside0.mk (below_step (bw HB) hb); (try clear hb); (try clear hb2); (try clear hk); (try clear hi); obtain ⟨hcz39_0, hcz39_1, hfz39_0, hfz39_1⟩ := cf2 BK255)))
          refine bodyPost_ret (results_ct rfl _ _ gb255 23 #[.int .i64 t269, .int .i64 t270] (0, 0) _ rfl (by (with_reducible repeat (first | refine blk_drewN ?_ _ | refine blk_drew ?_ | refine blk_alloc ?_ _)); refine blk_put (cs := #[.int .i64 t269, .int .i64 0]) ?_ 1 _ rfl; (with_reducible repeat (first | refine blk_drewN ?_ _ | refine blk_drew ?_ | refine blk_alloc ?_ _)); refine blk_put (cs := #[.int .i64 0, .int .i64 0]) ?_ 0 _ rfl; (with_reducible repeat (first | refine blk_drewN ?_ _ | refine blk_drew ?_ | refine blk_alloc ?_ _)); exact BK255.out) Tryz.underlying23 rfl (by kernel_rfl)) rfl ?_
          exact ⟨by first | rfl | (simp [errW_none, errW_some] <;> rfl) | (simp only [← hji6, ← hji7, ← hji14]; first | rfl | (simp [errW_none, errW_some] <;> rfl)) | (simp [*, errW_none, errW_some] <;> rfl), bw HB⟩
         ·rw [if_neg c34] at H
          have c34b0 : ((Int.tmod t259 2) == 1) = false := beq_eq_false_iff_ne.mpr c34
          have c34b1 : ((Int.tmod t259 2) != 1) = true := bne_iff_ne.mpr c34
          replace H := Option.bind_eq_some_iff.mp H
          obtain ⟨⟨t272, t273, t274⟩, A400, H⟩ := H
          replace H : (some (t272, t273, t274)) = some (r1, r2, r3) := H
          have A40 := Aside0.mk A400
          clear A400
          simp only [Option.some.injEq, Prod.mk.injEq] at H
          obtain ⟨rfl, rfl, rfl⟩ := H
          go_wp2_with (first | (go_at_call 98; (with_reducible refine (texts_number.calls (t258.extract 0 ((ji14) : Int).toNat) 10 4611686018427387904 t259 t260 _ A19.out).mono ?_); rintro e w41 ⟨rfl, hb⟩; replace BK255 := Aside0.mk (bb BK255 hb); replace HB := Aside0.mk (below_step (bw HB) hb); (try clear hb); (try clear hb2); (try clear hk); (try clear hi)) | (go_at_call 108; (with_reducible refine (strings_TrimRight.calls (t258.extract ((ji14) : Int).toNat t258.size) (⟨#[48]⟩ : ByteArray) t264 _ A25.out).mono ?_); rintro e w42 ⟨rfl, hb⟩; replace BK255 := Aside0.mk (bb BK255 hb); replace HB := Aside0.mk (below_step (bw HB) hb); (try clear hb); (try clear hb2); (try clear hk); (try clear hi)) | (go_at_call 107; (with_reducible refine (strings_Compare.calls t264 (⟨#[53]⟩ : ByteArray) t265 _ A26.out).mono ?_); rintro e w' ⟨rfl, ⟨nd, rfl⟩⟩; (try first | exact ⟨rfl, _, World.drewN_drewN _ _ _⟩ | exact ⟨rfl, _, Eq.trans (World.drewN_drewN _ _ _) (congrArg (World.drewN _) (Nat.add_assoc _ _ _))⟩)) | (go_at_call 109; (with_reducible refine (reals_Make.calls kj7 a0 0 t259 (wrap64 (a2 + ji7)) t272 t273 t274 _ A40.out).mono ?_); rintro e w43 ⟨rfl, hb⟩; replace BK255 := Aside0.mk (bb BK255 hb); replace HB := Aside0.mk (below_step (bw HB) hb); (try clear hb); (try clear hb2); (try clear hk); (try clear hi); obtain ⟨hcz44_0, hcz44_1, hfz44_0, hfz44_1⟩ := cf2 BK255))
          repeat (go_quiet (first | (go_at_call 98; (with_reducible refine (texts_number.calls (t258.extract 0 ((ji14) : Int).toNat) 10 4611686018427387904 t259 t260 _ A19.out).mono ?_); rintro e w41 ⟨rfl, hb⟩; replace BK255 := Aside0.mk (bb BK255 hb); replace HB := Aside0.mk (below_step (bw HB) hb); (try clear hb); (try clear hb2); (try clear hk); (try clear hi)) | (go_at_call 108; (with_reducible refine (strings_TrimRight.calls (t258.extract ((ji14) : Int).toNat t258.size) (⟨#[48]⟩ : ByteArray) t264 _ A25.out).mono ?_); rintro e w42 ⟨rfl, hb⟩; replace BK255 := Aside0.mk (bb BK255 hb); replace HB := Aside0.mk (below_step (bw HB) hb); (try clear hb); (try clear hb2); (try clear hk); (try clear hi)) | (go_at_call 107; (with_reducible refine (strings_Compare.calls t264 (⟨#[53]⟩ : ByteArray) t265 _ A26.out).mono ?_); rintro e w' ⟨rfl, ⟨nd, rfl⟩⟩; (try first | exact ⟨rfl, _, World.drewN_drewN _ _ _⟩ | exact ⟨rfl, _, Eq.trans (World.drewN_drewN _ _ _) (congrArg (World.drewN _) (Nat.add_assoc _ _ _))⟩)) | (go_at_call 109; (with_reducible refine (reals_Make.calls kj7 a0 0 t259 (wrap64 (a2 + ji7)) t272 t273 t274 _ A40.out).mono ?_); rintro e w43 ⟨rfl, hb⟩; replace BK255 := Aside0.mk (bb BK255 hb); replace HB := Aside0.mk (below_step (bw HB) hb); (try clear hb); (try clear hb2); (try clear hk); (try clear hi); obtain ⟨hcz44_0, hcz44_1, hfz44_0, hfz44_1⟩ := cf2 BK255)); try go_wp2_with (first | (go_at_call 98; (with_reducible refine (texts_number.calls (t258.extract 0 ((ji14) : Int).toNat) 10 4611686018427387904 t259 t260 _ A19.out).mono ?_); rintro e w41 ⟨rfl, hb⟩; replace BK255 := Aside0.mk (bb BK255 hb); replace HB := Aside0.mk (below_step (bw HB) hb); (try clear hb); (try clear hb2); (try clear hk); (try clear hi)) | (go_at_call 108; (with_reducible refine (strings_TrimRight.calls (t258.extract ((ji14) : Int).toNat t258.size) (⟨#[48]⟩ : ByteArray) t264 _ A25.out).mono ?_); rintro e w42 ⟨rfl, hb⟩; replace BK255 := Aside0.mk (bb BK255 hb); replace HB := Aside0.mk (below_step (bw HB) hb); (try clear hb); (try clear hb2); (try clear hk); (try clear hi)) | (go_at_call 107; (with_reducible refine (strings_Compare.calls t264 (⟨#[53]⟩ : ByteArray) t265 _ A26.out).mono ?_); rintro e w' ⟨rfl, ⟨nd, rfl⟩⟩; (try first | exact ⟨rfl, _, World.drewN_drewN _ _ _⟩ | exact ⟨rfl, _, Eq.trans (World.drewN_drewN _ _ _) (congrArg (World.drewN _) (Nat.add_assoc _ _ _))⟩)) | (go_at_call 109; (with_reducible refine (reals_Make.calls kj7 a0 0 t259 (wrap64 (a2 + ji7)) t272 t273 t274 _ A40.out).mono ?_); rintro e w43 ⟨rfl, hb⟩; replace BK255 := Aside0.mk (bb BK255 hb); replace HB := Aside0.mk (below_step (bw HB) hb); (try clear hb); (try clear hb2); (try clear hk); (try clear hi); obtain ⟨hcz44_0, hcz44_1, hfz44_0, hfz44_1⟩ := cf2 BK255)))
          refine bodyPost_ret (results_ct rfl _ _ gb255 23 #[.int .i64 t272, .int .i64 t273] (0, 0) _ rfl (by (with_reducible repeat (first | refine blk_drewN ?_ _ | refine blk_drew ?_ | refine blk_alloc ?_ _)); refine blk_put (cs := #[.int .i64 t272, .int .i64 0]) ?_ 1 _ rfl; (with_reducible repeat (first | refine blk_drewN ?_ _ | refine blk_drew ?_ | refine blk_alloc ?_ _)); refine blk_put (cs := #[.int .i64 0, .int .i64 0]) ?_ 0 _ rfl; (with_reducible repeat (first | refine blk_drewN ?_ _ | refine blk_drew ?_ | refine blk_alloc ?_ _)); exact BK255.out) Tryz.underlying23 rfl (by kernel_rfl)) rfl ?_
          exact ⟨by first | rfl | (simp [errW_none, errW_some] <;> rfl) | (simp only [← hji6, ← hji7, ← hji14]; first | rfl | (simp [errW_none, errW_some] <;> rfl)) | (simp [*, errW_none, errW_some] <;> rfl), bw HB⟩
        ·rw [if_neg c33] at H
         have c33b0 : (t265 == 0) = false := beq_eq_false_iff_ne.mpr c33
         have c33b1 : (t265 != 0) = true := bne_iff_ne.mpr c33
         replace H := Option.bind_eq_some_iff.mp H
         obtain ⟨⟨t275, t276, t277⟩, A450, H⟩ := H
         replace H : (some (t275, t276, t277)) = some (r1, r2, r3) := H
         have A45 := Aside0.mk A450
         clear A450
         simp only [Option.some.injEq, Prod.mk.injEq] at H
         obtain ⟨rfl, rfl, rfl⟩ := H
         go_wp2_with (first | (go_at_call 98; (with_reducible refine (texts_number.calls (t258.extract 0 ((ji14) : Int).toNat) 10 4611686018427387904 t259 t260 _ A19.out).mono ?_); rintro e w46 ⟨rfl, hb⟩; replace BK255 := Aside0.mk (bb BK255 hb); replace HB := Aside0.mk (below_step (bw HB) hb); (try clear hb); (try clear hb2); (try clear hk); (try clear hi)) | (go_at_call 108; (with_reducible refine (strings_TrimRight.calls (t258.extract ((ji14) : Int).toNat t258.size) (⟨#[48]⟩ : ByteArray) t264 _ A25.out).mono ?_); rintro e w47 ⟨rfl, hb⟩; replace BK255 := Aside0.mk (bb BK255 hb); replace HB := Aside0.mk (below_step (bw HB) hb); (try clear hb); (try clear hb2); (try clear hk); (try clear hi)) | (go_at_call 107; (with_reducible refine (strings_Compare.calls t264 (⟨#[53]⟩ : ByteArray) t265 _ A26.out).mono ?_); rintro e w' ⟨rfl, ⟨nd, rfl⟩⟩; (try first | exact ⟨rfl, _, World.drewN_drewN _ _ _⟩ | exact ⟨rfl, _, Eq.trans (World.drewN_drewN _ _ _) (congrArg (World.drewN _) (Nat.add_assoc _ _ _))⟩)) | (go_at_call 109; (with_reducible refine (reals_Make.calls kj7 a0 0 t259 (wrap64 (a2 + ji7)) t275 t276 t277 _ A45.out).mono ?_); rintro e w48 ⟨rfl, hb⟩; replace BK255 := Aside0.mk (bb BK255 hb); replace HB := Aside0.mk (below_step (bw HB) hb); (try clear hb); (try clear hb2); (try clear hk); (try clear hi); obtain ⟨hcz49_0, hcz49_1, hfz49_0, hfz49_1⟩ := cf2 BK255))
         repeat (go_quiet (first | (go_at_call 98; (with_reducible refine (texts_number.calls (t258.extract 0 ((ji14) : Int).toNat) 10 4611686018427387904 t259 t260 _ A19.out).mono ?_); rintro e w46 ⟨rfl, hb⟩; replace BK255 := Aside0.mk (bb BK255 hb); replace HB := Aside0.mk (below_step (bw HB) hb); (try clear hb); (try clear hb2); (try clear hk); (try clear hi)) | (go_at_call 108; (with_reducible refine (strings_TrimRight.calls (t258.extract ((ji14) : Int).toNat t258.size) (⟨#[48]⟩ : ByteArray) t264 _ A25.out).mono ?_); rintro e w47 ⟨rfl, hb⟩; replace BK255 := Aside0.mk (bb BK255 hb); replace HB := Aside0.mk (below_step (bw HB) hb); (try clear hb); (try clear hb2); (try clear hk); (try clear hi)) | (go_at_call 107; (with_reducible refine (strings_Compare.calls t264 (⟨#[53]⟩ : ByteArray) t265 _ A26.out).mono ?_); rintro e w' ⟨rfl, ⟨nd, rfl⟩⟩; (try first | exact ⟨rfl, _, World.drewN_drewN _ _ _⟩ | exact ⟨rfl, _, Eq.trans (World.drewN_drewN _ _ _) (congrArg (World.drewN _) (Nat.add_assoc _ _ _))⟩)) | (go_at_call 109; (with_reducible refine (reals_Make.calls kj7 a0 0 t259 (wrap64 (a2 + ji7)) t275 t276 t277 _ A45.out).mono ?_); rintro e w48 ⟨rfl, hb⟩; replace BK255 := Aside0.mk (bb BK255 hb); replace HB := Aside0.mk (below_step (bw HB) hb); (try clear hb); (try clear hb2); (try clear hk); (try clear hi); obtain ⟨hcz49_0, hcz49_1, hfz49_0, hfz49_1⟩ := cf2 BK255)); try go_wp2_with (first | (go_at_call 98; (with_reducible refine (texts_number.calls (t258.extract 0 ((ji14) : Int).toNat) 10 4611686018427387904 t259 t260 _ A19.out).mono ?_); rintro e w46 ⟨rfl, hb⟩; replace BK255 := Aside0.mk (bb BK255 hb); replace HB := Aside0.mk (below_step (bw HB) hb); (try clear hb); (try clear hb2); (try clear hk); (try clear hi)) | (go_at_call 108; (with_reducible refine (strings_TrimRight.calls (t258.extract ((ji14) : Int).toNat t258.size) (⟨#[48]⟩ : ByteArray) t264 _ A25.out).mono ?_); rintro e w47 ⟨rfl, hb⟩; replace BK255 := Aside0.mk (bb BK255 hb); replace HB := Aside0.mk (below_step (bw HB) hb); (try clear hb); (try clear hb2); (try clear hk); (try clear hi)) | (go_at_call 107; (with_reducible refine (strings_Compare.calls t264 (⟨#[53]⟩ : ByteArray) t265 _ A26.out).mono ?_); rintro e w' ⟨rfl, ⟨nd, rfl⟩⟩; (try first | exact ⟨rfl, _, World.drewN_drewN _ _ _⟩ | exact ⟨rfl, _, Eq.trans (World.drewN_drewN _ _ _) (congrArg (World.drewN _) (Nat.add_assoc _ _ _))⟩)) | (go_at_call 109; (with_reducible refine (reals_Make.calls kj7 a0 0 t259 (wrap64 (a2 + ji7)) t275 t276 t277 _ A45.out).mono ?_); rintro e w48 ⟨rfl, hb⟩; replace BK255 := Aside0.mk (bb BK255 hb); replace HB := Aside0.mk (below_step (bw HB) hb); (try clear hb); (try clear hb2); (try clear hk); (try clear hi); obtain ⟨hcz49_0, hcz49_1, hfz49_0, hfz49_1⟩ := cf2 BK255)))
         refine bodyPost_ret (results_ct rfl _ _ gb255 23 #[.int .i64 t275, .int .i64 t276] (0, 0) _ rfl (by (with_reducible repeat (first | refine blk_drewN ?_ _ | refine blk_drew ?_ | refine blk_alloc ?_ _)); refine blk_put (cs := #[.int .i64 t275, .int .i64 0]) ?_ 1 _ rfl; (with_reducible repeat (first | refine blk_drewN ?_ _ | refine blk_drew ?_ | refine blk_alloc ?_ _)); refine blk_put (cs := #[.int .i64 0, .int .i64 0]) ?_ 0 _ rfl; (with_reducible repeat (first | refine blk_drewN ?_ _ | refine blk_drew ?_ | refine blk_alloc ?_ _)); exact BK255.out) Tryz.underlying23 rfl (by kernel_rfl)) rfl ?_
         exact ⟨by first | rfl | (simp [errW_none, errW_some] <;> rfl) | (simp only [← hji6, ← hji7, ← hji14]; first | rfl | (simp [errW_none, errW_some] <;> rfl)) | (simp [*, errW_none, errW_some] <;> rfl), bw HB⟩
     ·rw [if_neg c16] at H
      exact absurd H (by simp)
    ·rw [if_neg c15] at H
     exact absurd H (by simp)

/-! ### texts_clamped: function 75 -/
def texts_clamped.f (a0 : ByteArray) : Option (Int) := (strings_HasPrefix.f a0 (⟨#[45]⟩ : ByteArray)).bind fun t278 => ((strings_TrimLeft.f a0 (⟨#[43, 45]⟩ : ByteArray)).bind fun t279 => ((texts_number.f t279 10 1099511627776).bind fun bt280 => (if bt280.2 = true then (if t278 = true then (some (wrap64 (-bt280.1))) else (some bt280.1)) else (if t278 = true then (some (-1099511627776)) else (some 1099511627776)))))
set_option maxHeartbeats 8000000 in
set_option maxRecDepth 100000 in
theorem texts_clamped.calls (a0 : ByteArray) (r : Int) (w : World) (h : texts_clamped.f a0 = some r) :
  Calls Tryz.prog 75 #[.string a0] w fun e w' => e = .returned (.int .i64 r) ∧ Below w.heap.size w w' := by
 have HB := Aside0.mk (Below.refl w.heap.size w)
 have H : ((strings_HasPrefix.f a0 (⟨#[45]⟩ : ByteArray)).bind fun t278 => ((strings_TrimLeft.f a0 (⟨#[43, 45]⟩ : ByteArray)).bind fun t279 => ((texts_number.f t279 10 1099511627776).bind fun bt280 => (if bt280.2 = true then (if t278 = true then (some (wrap64 (-bt280.1))) else (some bt280.1)) else (if t278 = true then (some (-1099511627776)) else (some 1099511627776)))))) = some r := h
 clear h
 replace H := Option.bind_eq_some_iff.mp H
 obtain ⟨t278, A20, H⟩ := H
 replace H : ((strings_TrimLeft.f a0 (⟨#[43, 45]⟩ : ByteArray)).bind fun t279 => ((texts_number.f t279 10 1099511627776).bind fun bt280 => (if bt280.2 = true then (if t278 = true then (some (wrap64 (-bt280.1))) else (some bt280.1)) else (if t278 = true then (some (-1099511627776)) else (some 1099511627776))))) = some r := H
 have A2 := Aside0.mk A20
 clear A20
 replace H := Option.bind_eq_some_iff.mp H
 obtain ⟨t279, A30, H⟩ := H
 replace H : ((texts_number.f t279 10 1099511627776).bind fun bt280 => (if bt280.2 = true then (if t278 = true then (some (wrap64 (-bt280.1))) else (some bt280.1)) else (if t278 = true then (some (-1099511627776)) else (some 1099511627776)))) = some r := H
 have A3 := Aside0.mk A30
 clear A30
 replace H := Option.bind_eq_some_iff.mp H
 obtain ⟨⟨t280, t281⟩, A40, H⟩ := H
 replace H : (if t281 = true then (if t278 = true then (some (wrap64 (-t280))) else (some t280)) else (if t278 = true then (some (-1099511627776)) else (some 1099511627776))) = some r := H
 have A4 := Aside0.mk A40
 clear A40
 by_cases c5 : t281 = true
 ·subst c5
  have H1 : (if t278 = true then (some (wrap64 (-t280))) else (some t280)) = some r := by rw [if_pos rfl] at H; exact H
  clear H
  have H := H1
  clear H1
  by_cases c6 : t278 = true
  ·subst c6
   have H1 : (some (wrap64 (-t280))) = some r := by rw [if_pos rfl] at H; exact H
   clear H
   have H := H1
   clear H1
   obtain rfl := Option.some.inj H
   go_enter Tryz.func75, Tryz.ntmps75
   go_wp2_with (first | ((with_reducible refine gate_callee (f := 35) rfl ?_); refine goesL_ (some 7) rfl rfl Tryz.func35 (by kernel_rfl) rfl #[.string a0, .string (⟨#[45]⟩ : ByteArray)] rfl (by (try simp only [List.map_toArray, List.map_cons, List.map_nil]); first | done | rfl | (simp only [List.length_drop, List.length_take]; rfl)) ?_; (with_reducible refine (strings_HasPrefix.calls a0 (⟨#[45]⟩ : ByteArray) true _ A2.out).mono ?_); rintro e w' ⟨rfl, ⟨nd, rfl⟩⟩; refine ⟨_, rfl, ?_⟩) | ((with_reducible refine gate_callee (f := 84) rfl ?_); refine goesL_ (some 10) rfl rfl Tryz.func84 (by kernel_rfl) rfl #[.string a0, .string (⟨#[43, 45]⟩ : ByteArray)] rfl (by (try simp only [List.map_toArray, List.map_cons, List.map_nil]); first | done | rfl | (simp only [List.length_drop, List.length_take]; rfl)) ?_; (with_reducible refine (strings_TrimLeft.calls a0 (⟨#[43, 45]⟩ : ByteArray) t279 _ A3.out).mono ?_); rintro e w7 ⟨rfl, hb⟩; refine ⟨_, rfl, ?_⟩; replace HB := Aside0.mk (below_step (bw HB) hb); (try clear hb); (try clear hb2); (try clear hk); (try clear hi)) | ((with_reducible refine gate_callee (f := 98) rfl ?_); refine goesL_ (some 11) rfl rfl Tryz.func98 (by kernel_rfl) rfl #[.string t279, .int .i64 10, .int .i64 1099511627776] rfl (by (try simp only [List.map_toArray, List.map_cons, List.map_nil]); first | done | rfl | (simp only [List.length_drop, List.length_take]; rfl)) ?_; (with_reducible refine (texts_number.calls t279 10 1099511627776 t280 true _ A4.out).mono ?_); rintro e w8 ⟨rfl, hb⟩; refine ⟨_, rfl, ?_⟩; replace HB := Aside0.mk (below_step (bw HB) hb); (try clear hb); (try clear hb2); (try clear hk); (try clear hi)))
   go_ret
   exact ⟨by first | rfl | (simp [errW_none, errW_some] <;> rfl) | (simp [*, errW_none, errW_some] <;> rfl), bw HB⟩
  ·replace c6 := Bool.eq_false_iff.mpr c6
   subst c6
   have H1 : (some t280) = some r := by rw [if_neg (show ¬ (false = true) by decide)] at H; exact H
   clear H
   have H := H1
   clear H1
   obtain rfl := Option.some.inj H
   go_enter Tryz.func75, Tryz.ntmps75
   go_wp2_with (first | ((with_reducible refine gate_callee (f := 35) rfl ?_); refine goesL_ (some 7) rfl rfl Tryz.func35 (by kernel_rfl) rfl #[.string a0, .string (⟨#[45]⟩ : ByteArray)] rfl (by (try simp only [List.map_toArray, List.map_cons, List.map_nil]); first | done | rfl | (simp only [List.length_drop, List.length_take]; rfl)) ?_; (with_reducible refine (strings_HasPrefix.calls a0 (⟨#[45]⟩ : ByteArray) false _ A2.out).mono ?_); rintro e w' ⟨rfl, ⟨nd, rfl⟩⟩; refine ⟨_, rfl, ?_⟩) | ((with_reducible refine gate_callee (f := 84) rfl ?_); refine goesL_ (some 10) rfl rfl Tryz.func84 (by kernel_rfl) rfl #[.string a0, .string (⟨#[43, 45]⟩ : ByteArray)] rfl (by (try simp only [List.map_toArray, List.map_cons, List.map_nil]); first | done | rfl | (simp only [List.length_drop, List.length_take]; rfl)) ?_; (with_reducible refine (strings_TrimLeft.calls a0 (⟨#[43, 45]⟩ : ByteArray) t279 _ A3.out).mono ?_); rintro e w9 ⟨rfl, hb⟩; refine ⟨_, rfl, ?_⟩; replace HB := Aside0.mk (below_step (bw HB) hb); (try clear hb); (try clear hb2); (try clear hk); (try clear hi)) | ((with_reducible refine gate_callee (f := 98) rfl ?_); refine goesL_ (some 11) rfl rfl Tryz.func98 (by kernel_rfl) rfl #[.string t279, .int .i64 10, .int .i64 1099511627776] rfl (by (try simp only [List.map_toArray, List.map_cons, List.map_nil]); first | done | rfl | (simp only [List.length_drop, List.length_take]; rfl)) ?_; (with_reducible refine (texts_number.calls t279 10 1099511627776 t280 true _ A4.out).mono ?_); rintro e w10 ⟨rfl, hb⟩; refine ⟨_, rfl, ?_⟩; replace HB := Aside0.mk (below_step (bw HB) hb); (try clear hb); (try clear hb2); (try clear hk); (try clear hi)))
   go_ret
   exact ⟨by first | rfl | (simp [errW_none, errW_some] <;> rfl) | (simp [*, errW_none, errW_some] <;> rfl), bw HB⟩
 ·replace c5 := Bool.eq_false_iff.mpr c5
  subst c5
  have H1 : (if t278 = true then (some (-1099511627776)) else (some 1099511627776)) = some r := by rw [if_neg (show ¬ (false = true) by decide)] at H; exact H
  clear H
  have H := H1
  clear H1
  by_cases c11 : t278 = true
  ·subst c11
   have H1 : (some (-1099511627776)) = some r := by rw [if_pos rfl] at H; exact H
   clear H
   have H := H1
   clear H1
   obtain rfl := Option.some.inj H
   go_enter Tryz.func75, Tryz.ntmps75
   go_wp2_with (first | ((with_reducible refine gate_callee (f := 35) rfl ?_); refine goesL_ (some 7) rfl rfl Tryz.func35 (by kernel_rfl) rfl #[.string a0, .string (⟨#[45]⟩ : ByteArray)] rfl (by (try simp only [List.map_toArray, List.map_cons, List.map_nil]); first | done | rfl | (simp only [List.length_drop, List.length_take]; rfl)) ?_; (with_reducible refine (strings_HasPrefix.calls a0 (⟨#[45]⟩ : ByteArray) true _ A2.out).mono ?_); rintro e w' ⟨rfl, ⟨nd, rfl⟩⟩; refine ⟨_, rfl, ?_⟩) | ((with_reducible refine gate_callee (f := 84) rfl ?_); refine goesL_ (some 10) rfl rfl Tryz.func84 (by kernel_rfl) rfl #[.string a0, .string (⟨#[43, 45]⟩ : ByteArray)] rfl (by (try simp only [List.map_toArray, List.map_cons, List.map_nil]); first | done | rfl | (simp only [List.length_drop, List.length_take]; rfl)) ?_; (with_reducible refine (strings_TrimLeft.calls a0 (⟨#[43, 45]⟩ : ByteArray) t279 _ A3.out).mono ?_); rintro e w12 ⟨rfl, hb⟩; refine ⟨_, rfl, ?_⟩; replace HB := Aside0.mk (below_step (bw HB) hb); (try clear hb); (try clear hb2); (try clear hk); (try clear hi)) | ((with_reducible refine gate_callee (f := 98) rfl ?_); refine goesL_ (some 11) rfl rfl Tryz.func98 (by kernel_rfl) rfl #[.string t279, .int .i64 10, .int .i64 1099511627776] rfl (by (try simp only [List.map_toArray, List.map_cons, List.map_nil]); first | done | rfl | (simp only [List.length_drop, List.length_take]; rfl)) ?_; (with_reducible refine (texts_number.calls t279 10 1099511627776 t280 false _ A4.out).mono ?_); rintro e w13 ⟨rfl, hb⟩; refine ⟨_, rfl, ?_⟩; replace HB := Aside0.mk (below_step (bw HB) hb); (try clear hb); (try clear hb2); (try clear hk); (try clear hi)))
   go_ret
   exact ⟨by first | rfl | (simp [errW_none, errW_some] <;> rfl) | (simp [*, errW_none, errW_some] <;> rfl), bw HB⟩
  ·replace c11 := Bool.eq_false_iff.mpr c11
   subst c11
   have H1 : (some 1099511627776) = some r := by rw [if_neg (show ¬ (false = true) by decide)] at H; exact H
   clear H
   have H := H1
   clear H1
   obtain rfl := Option.some.inj H
   go_enter Tryz.func75, Tryz.ntmps75
   go_wp2_with (first | ((with_reducible refine gate_callee (f := 35) rfl ?_); refine goesL_ (some 7) rfl rfl Tryz.func35 (by kernel_rfl) rfl #[.string a0, .string (⟨#[45]⟩ : ByteArray)] rfl (by (try simp only [List.map_toArray, List.map_cons, List.map_nil]); first | done | rfl | (simp only [List.length_drop, List.length_take]; rfl)) ?_; (with_reducible refine (strings_HasPrefix.calls a0 (⟨#[45]⟩ : ByteArray) false _ A2.out).mono ?_); rintro e w' ⟨rfl, ⟨nd, rfl⟩⟩; refine ⟨_, rfl, ?_⟩) | ((with_reducible refine gate_callee (f := 84) rfl ?_); refine goesL_ (some 10) rfl rfl Tryz.func84 (by kernel_rfl) rfl #[.string a0, .string (⟨#[43, 45]⟩ : ByteArray)] rfl (by (try simp only [List.map_toArray, List.map_cons, List.map_nil]); first | done | rfl | (simp only [List.length_drop, List.length_take]; rfl)) ?_; (with_reducible refine (strings_TrimLeft.calls a0 (⟨#[43, 45]⟩ : ByteArray) t279 _ A3.out).mono ?_); rintro e w14 ⟨rfl, hb⟩; refine ⟨_, rfl, ?_⟩; replace HB := Aside0.mk (below_step (bw HB) hb); (try clear hb); (try clear hb2); (try clear hk); (try clear hi)) | ((with_reducible refine gate_callee (f := 98) rfl ?_); refine goesL_ (some 11) rfl rfl Tryz.func98 (by kernel_rfl) rfl #[.string t279, .int .i64 10, .int .i64 1099511627776] rfl (by (try simp only [List.map_toArray, List.map_cons, List.map_nil]); first | done | rfl | (simp only [List.length_drop, List.length_take]; rfl)) ?_; (with_reducible refine (texts_number.calls t279 10 1099511627776 t280 false _ A4.out).mono ?_); rintro e w15 ⟨rfl, hb⟩; refine ⟨_, rfl, ?_⟩; replace HB := Aside0.mk (below_step (bw HB) hb); (try clear hb); (try clear hb2); (try clear hk); (try clear hi)))
   go_ret
   exact ⟨by first | rfl | (simp [errW_none, errW_some] <;> rfl) | (simp [*, errW_none, errW_some] <;> rfl), bw HB⟩

/-! ### texts_Real: function 27 -/
def texts_Real.j0 : Nat → Int → ByteArray → ByteArray → ByteArray → Bool → Option (Int × Int × Int)
 | 0, _, _, _, _, _ => none
 | k + 1, x0, x7, x8, x9, x31 => if x31 = true then (some (0, 0, 9)) else (if x7.size + x8.size ≤ 9223372036854775807 then ((texts_clamped.f x9).bind fun t288 => ((texts_rounded.f k x0 (x7 ++ x8) (wrap64 (t288 - (x8.size : Int)))).bind fun bt289 => (some (bt289.1, bt289.2.1, bt289.2.2)))) else (none))
def texts_Real.f (k : Nat) (a0 : Int) (a1 : ByteArray) : Option (Int × Int × Int) := (texts_size.f a0).bind fun t283 => (if t283 = 0 then ((texts_parts.f k a1).bind fun bt284 => (if bt284.2.2.2 = 0 then (texts_Real.j0 k a0 bt284.1 bt284.2.1 bt284.2.2.1 true) else (texts_Real.j0 k a0 bt284.1 bt284.2.1 bt284.2.2.1 (decide (bt284.2.2.2 < (a1.size : Int)))))) else (some (0, 0, t283)))
theorem texts_Real.mono_l : ∀ k, (∀ y0 y1 y2 y3 y4, LeO (texts_Real.j0 k y0 y1 y2 y3 y4) (texts_Real.j0 (k + 1) y0 y1 y2 y3 y4))
 | 0 => fun _ _ _ _ _ r h => by simp [texts_Real.j0] at h
 | k + 1 => by
  have ih0 := texts_Real.mono_l k
  ·intro y0 y1 y2 y3 y4
   unfold texts_Real.j0
   repeat' first
   | (with_reducible exact ih0 _ _ _ _ _)
   | (with_reducible exact texts_parts.mono _ _)
   | (with_reducible exact texts_rounded.mono _ _ _ _)
   | (with_reducible exact LeO.refl _)
   | (with_reducible exact LeO.none _)
   | (with_reducible refine LeO.ite ?_ ?_)
   | (with_reducible refine LeO.bind ?_ (fun _ => ?_))
   | exact ih0 _ _ _ _ _
   | exact texts_parts.mono _ _
   | exact texts_rounded.mono _ _ _ _
   | exact LeO.none _
   | refine LeO.ite ?_ ?_
   | refine LeO.bind ?_ (fun _ => ?_)
theorem texts_Real.mono : ∀ a0 a1 k, LeO (texts_Real.f k a0 a1) (texts_Real.f (k + 1) a0 a1) := by
 intro a0 a1 k
 have ih0 := texts_Real.mono_l k
 unfold texts_Real.f
 repeat' first
   | (with_reducible exact ih0 _ _ _ _ _)
   | (with_reducible exact texts_parts.mono _ _)
   | (with_reducible exact texts_rounded.mono _ _ _ _)
   | (with_reducible exact LeO.refl _)
   | (with_reducible exact LeO.none _)
   | (with_reducible refine LeO.ite ?_ ?_)
   | (with_reducible refine LeO.bind ?_ (fun _ => ?_))
   | exact ih0 _ _ _ _ _
   | exact texts_parts.mono _ _
   | exact texts_rounded.mono _ _ _ _
   | exact LeO.none _
   | refine LeO.ite ?_ ?_
   | refine LeO.bind ?_ (fun _ => ?_)
set_option maxHeartbeats 8000000 in
set_option maxRecDepth 100000 in
theorem texts_Real.calls (k : Nat) (a0 : Int) (a1 : ByteArray) (r1 : Int) (r2 : Int) (r3 : Int) (w : World) (h : texts_Real.f k a0 a1 = some (r1, r2, r3)) :
  Calls Tryz.prog 27 #[.int .i64 a0, .string a1] w fun e w' => e = .returned (.tuple #[.agg #[.int .i64 r1, .int .i64 r2], .int .i64 r3]) ∧ Below w.heap.size w w' := by
 have hu23 := Tryz.underlying23
 have HB := Aside0.mk (Below.refl w.heap.size w)
 have H : ((texts_size.f a0).bind fun t283 => (if t283 = 0 then ((texts_parts.f k a1).bind fun bt284 => (if bt284.2.2.2 = 0 then (texts_Real.j0 k a0 bt284.1 bt284.2.1 bt284.2.2.1 true) else (texts_Real.j0 k a0 bt284.1 bt284.2.1 bt284.2.2.1 (decide (bt284.2.2.2 < (a1.size : Int)))))) else (some (0, 0, t283)))) = some (r1, r2, r3) := h
 clear h
 replace H := Option.bind_eq_some_iff.mp H
 obtain ⟨t283, A30, H⟩ := H
 replace H : (if t283 = 0 then ((texts_parts.f k a1).bind fun bt284 => (if bt284.2.2.2 = 0 then (texts_Real.j0 k a0 bt284.1 bt284.2.1 bt284.2.2.1 true) else (texts_Real.j0 k a0 bt284.1 bt284.2.1 bt284.2.2.1 (decide (bt284.2.2.2 < (a1.size : Int)))))) else (some (0, 0, t283))) = some (r1, r2, r3) := H
 have A3 := Aside0.mk A30
 clear A30
 by_cases c4 : t283 = 0
 ·rw [if_pos c4] at H
  have c4b0 : (t283 == 0) = true := beq_iff_eq.mpr c4
  have c4b1 : (t283 != 0) = false := bne_eq_false_iff_eq.mpr c4
  clear c4
  replace H := Option.bind_eq_some_iff.mp H
  obtain ⟨⟨t284, t285, t286, t287⟩, A50, H⟩ := H
  replace H : (if t287 = 0 then (texts_Real.j0 k a0 t284 t285 t286 true) else (texts_Real.j0 k a0 t284 t285 t286 (decide (t287 < (a1.size : Int))))) = some (r1, r2, r3) := H
  have A5 := Aside0.mk A50
  clear A50
  have HC6 := Aside0.mk H
  clear H
  go_enter Tryz.func27, Tryz.ntmps27
  go_upto_region 5 with (first | ((with_reducible refine gate_dst (N := 4) rfl ?_); (try (refine gate_guard (by rfl) ?_; dsimp only)); refine box_event ?hg (N := 4) ?hd (cs := #[.int .i64 0, .int .i64 0]) (t := 23) ?hr ?_; (case hd => rfl); (case hg => rfl); (case hr => first | (go_simp; done) | (go_simp; rfl)); intro gb282 hg w7 hbox hb; have BK282 := Aside0.mk (hbox); have GW282 := Aside0.mk (bs HB hg : w.heap.size ≤ gb282); replace HB := Aside0.mk (below_step (bw HB) hb); clear hb hbox hg) | ((with_reducible refine gate_callee (f := 60) rfl ?_); refine goesL_ (some 12) rfl rfl Tryz.func60 (by kernel_rfl) rfl #[.int .i64 a0] rfl (by (try simp only [List.map_toArray, List.map_cons, List.map_nil]); first | done | rfl | (simp only [List.length_drop, List.length_take]; rfl)) ?_; (with_reducible refine (texts_size.calls a0 t283 _ A3.out).mono ?_); rintro e w8 ⟨rfl, hb⟩; refine ⟨_, rfl, ?_⟩; replace BK282 := Aside0.mk (bb BK282 hb); replace HB := Aside0.mk (below_step (bw HB) hb); (try clear hb); (try clear hb2); (try clear hk); (try clear hi)) | ((with_reducible refine gate_callee (f := 68) rfl ?_); refine goesL_ (some 19) rfl rfl Tryz.func68 (by kernel_rfl) rfl #[.string a1] rfl (by (try simp only [List.map_toArray, List.map_cons, List.map_nil]); first | done | rfl | (simp only [List.length_drop, List.length_take]; rfl)) ?_; (with_reducible refine (texts_parts.calls k a1 t284 t285 t286 t287 _ A5.out).mono ?_); rintro e w' ⟨rfl, ⟨nd, rfl⟩⟩; refine ⟨_, rfl, ?_⟩))
  (try simp only [sx])
  go_cut [31] (fun v31 wc => ∃ (kq : Nat) (x31_5 : Bool), v31 = .bool x31_5 ∧ Aside0 (texts_Real.j0 kq a0 t284 t285 t286 x31_5 = some (r1, r2, r3)) ∧ Aside0 (kq ≤ k) ∧ Aside0 (wc.heap[gb282]? = some (.cells #[.int .i64 0, .int .i64 0] 23 (0, 0))) ∧ Aside0 (Below w.heap.size w wc))
  case first =>
   have H := HC6.out
   clear HC6
   by_cases c9 : t287 = 0
   ·rw [if_pos c9] at H
    have c9b0 : (t287 == 0) = true := beq_iff_eq.mpr c9
    have c9b1 : (t287 != 0) = false := bne_eq_false_iff_eq.mpr c9
    clear c9
    (first | rw [c9b0] | (simp only [i64_w, i32_w]; rw [c9b0]) | skip)
    have H' := Aside0.mk H
    clear H
    go_wp2
    go_meet
    case rel => exact ⟨_, (true), (by first | rfl | (simp; done) | (simp [*]; done)), H', ⟨by first | omega | exact Nat.le_refl _⟩, ⟨by (with_reducible repeat (first | refine blk_drewN ?_ _ | refine blk_drew ?_ | refine blk_alloc ?_ _)); exact BK282.out⟩, ⟨bw HB⟩⟩
   ·rw [if_neg c9] at H
    have c9b0 : (t287 == 0) = false := beq_eq_false_iff_ne.mpr c9
    have c9b1 : (t287 != 0) = true := bne_iff_ne.mpr c9
    (first | rw [c9b0] | (simp only [i64_w, i32_w]; rw [c9b0]) | skip)
    have H' := Aside0.mk H
    clear H
    go_wp2
    go_meet
    case rel => exact ⟨_, (decide (t287 < (a1.size : Int))), (by first | rfl | (simp; done) | (simp [*]; done)), H', ⟨by first | omega | exact Nat.le_refl _⟩, ⟨by (with_reducible repeat (first | refine blk_drewN ?_ _ | refine blk_drew ?_ | refine blk_alloc ?_ _)); exact BK282.out⟩, ⟨bw HB⟩⟩
  case rest =>
   clear HC6
   try clear c2
   try clear p2
   try clear c4
   try clear c4b0
   try clear c4b1
   try clear c6
   try clear c9
   try clear c9b0
   try clear c9b1
   obtain ⟨kq, x31_5, rfl, HA, HJ5, BK282, HB⟩ := hcut
   cases kq with
   | zero => exact absurd HA.out (by simp [texts_Real.j0])
   | succ kj5 =>
    have H := HA.out
    clear HA
    simp only [texts_Real.j0] at H
    by_cases c10 : x31_5 = true
    ·subst c10
     have H1 : (some (0, 0, 9)) = some (r1, r2, r3) := by rw [if_pos rfl] at H; exact H
     clear H
     have H := H1
     clear H1
     simp only [Option.some.injEq, Prod.mk.injEq] at H
     obtain ⟨rfl, rfl, rfl⟩ := H
     have hcz11_0 : wc.cell? ⟨gb282, 0, none⟩ = some (.int .i64 0) := (blk_cell BK282.out 0).trans rfl
     have hcz11_1 : wc.cell? ⟨gb282, 1, none⟩ = some (.int .i64 0) := (blk_cell BK282.out 1).trans rfl
     have hfz11_0 := blk_frozen BK282.out 0
     have hfz11_1 := blk_frozen BK282.out 1
     go_wp2
     refine bodyPost_ret (results_ct rfl _ _ gb282 23 #[.int .i64 0, .int .i64 0] (0, 0) _ rfl (by (with_reducible repeat (first | refine blk_drewN ?_ _ | refine blk_drew ?_ | refine blk_alloc ?_ _)); refine blk_put (cs := #[.int .i64 0, .int .i64 0]) ?_ 1 _ rfl; (with_reducible repeat (first | refine blk_drewN ?_ _ | refine blk_drew ?_ | refine blk_alloc ?_ _)); refine blk_put (cs := #[.int .i64 0, .int .i64 0]) ?_ 0 _ rfl; (with_reducible repeat (first | refine blk_drewN ?_ _ | refine blk_drew ?_ | refine blk_alloc ?_ _)); exact BK282.out) Tryz.underlying23 rfl (by kernel_rfl)) rfl ?_
     exact ⟨by first | rfl | (simp [errW_none, errW_some] <;> rfl) | (simp [*, errW_none, errW_some] <;> rfl), bw HB⟩
    ·replace c10 := Bool.eq_false_iff.mpr c10
     subst c10
     have H1 : (if t284.size + t285.size ≤ 9223372036854775807 then ((texts_clamped.f t286).bind fun t288 => ((texts_rounded.f kj5 a0 (t284 ++ t285) (wrap64 (t288 - (t285.size : Int)))).bind fun bt289 => (some (bt289.1, bt289.2.1, bt289.2.2)))) else (none)) = some (r1, r2, r3) := by rw [if_neg (show ¬ (false = true) by decide)] at H; exact H
     clear H
     have H := H1
     clear H1
     by_cases c12 : t284.size + t285.size ≤ 9223372036854775807
     ·rw [if_pos c12] at H
      have c12b0 := eq_true c12
      have c12b1 : decide (t284.size + t285.size ≤ 9223372036854775807) = true := decide_eq_true c12
      try have c12b2 : (9223372036854775807 < t284.size + t285.size) = False := eq_false (Nat.not_lt.2 c12)
      replace H := Option.bind_eq_some_iff.mp H
      obtain ⟨t288, A130, H⟩ := H
      replace H : ((texts_rounded.f kj5 a0 (t284 ++ t285) (wrap64 (t288 - (t285.size : Int)))).bind fun bt289 => (some (bt289.1, bt289.2.1, bt289.2.2))) = some (r1, r2, r3) := H
      have A13 := Aside0.mk A130
      clear A130
      replace H := Option.bind_eq_some_iff.mp H
      obtain ⟨⟨t289, t290, t291⟩, A140, H⟩ := H
      replace H : (some (t289, t290, t291)) = some (r1, r2, r3) := H
      have A14 := Aside0.mk A140
      clear A140
      simp only [Option.some.injEq, Prod.mk.injEq] at H
      obtain ⟨rfl, rfl, rfl⟩ := H
      go_wp2_with (first | ((with_reducible refine gate_callee (f := 75) rfl ?_); refine goesL_ (some 38) rfl rfl Tryz.func75 (by kernel_rfl) rfl #[.string t286] rfl (by (try simp only [List.map_toArray, List.map_cons, List.map_nil]); first | done | rfl | (simp only [List.length_drop, List.length_take]; rfl)) ?_; (with_reducible refine (texts_clamped.calls t286 t288 _ A13.out).mono ?_); rintro e w15 ⟨rfl, hb⟩; refine ⟨_, rfl, ?_⟩; replace BK282 := Aside0.mk (bb BK282 hb); replace HB := Aside0.mk (below_step (bw HB) hb); (try clear hb); (try clear hb2); (try clear hk); (try clear hi)) | ((with_reducible refine gate_callee (f := 74) rfl ?_); refine goesL_ (some 42) rfl rfl Tryz.func74 (by kernel_rfl) rfl #[.int .i64 a0, .string (t284 ++ t285), .int .i64 (wrap64 (t288 - (t285.size : Int)))] rfl (by (try simp only [List.map_toArray, List.map_cons, List.map_nil]); first | done | rfl | (simp only [List.length_drop, List.length_take]; rfl)) ?_; (with_reducible refine (texts_rounded.calls kj5 a0 (t284 ++ t285) (wrap64 (t288 - (t285.size : Int))) t289 t290 t291 _ A14.out).mono ?_); rintro e w16 ⟨rfl, hb⟩; refine ⟨_, rfl, ?_⟩; replace BK282 := Aside0.mk (bb BK282 hb); replace HB := Aside0.mk (below_step (bw HB) hb); (try clear hb); (try clear hb2); (try clear hk); (try clear hi); obtain ⟨hcz17_0, hcz17_1, hfz17_0, hfz17_1⟩ := cf2 BK282))
      refine bodyPost_ret (results_ct rfl _ _ gb282 23 #[.int .i64 t289, .int .i64 t290] (0, 0) _ rfl (by (with_reducible repeat (first | refine blk_drewN ?_ _ | refine blk_drew ?_ | refine blk_alloc ?_ _)); refine blk_put (cs := #[.int .i64 t289, .int .i64 0]) ?_ 1 _ rfl; (with_reducible repeat (first | refine blk_drewN ?_ _ | refine blk_drew ?_ | refine blk_alloc ?_ _)); refine blk_put (cs := #[.int .i64 0, .int .i64 0]) ?_ 0 _ rfl; (with_reducible repeat (first | refine blk_drewN ?_ _ | refine blk_drew ?_ | refine blk_alloc ?_ _)); exact BK282.out) Tryz.underlying23 rfl (by kernel_rfl)) rfl ?_
      exact ⟨by first | rfl | (simp [errW_none, errW_some] <;> rfl) | (simp [*, errW_none, errW_some] <;> rfl), bw HB⟩
     ·rw [if_neg c12] at H
      exact absurd H (by simp)
 ·rw [if_neg c4] at H
  have c4b0 : (t283 == 0) = false := beq_eq_false_iff_ne.mpr c4
  have c4b1 : (t283 != 0) = true := bne_iff_ne.mpr c4
  simp only [Option.some.injEq, Prod.mk.injEq] at H
  obtain ⟨rfl, rfl, rfl⟩ := H
  go_enter Tryz.func27, Tryz.ntmps27
  go_wp2_with (first | ((with_reducible refine gate_dst (N := 4) rfl ?_); (try (refine gate_guard (by rfl) ?_; dsimp only)); refine box_event ?hg (N := 4) ?hd (cs := #[.int .i64 0, .int .i64 0]) (t := 23) ?hr ?_; (case hd => rfl); (case hg => rfl); (case hr => first | (go_simp; done) | (go_simp; rfl)); intro gb282 hg w18 hbox hb; have BK282 := Aside0.mk (hbox); have GW282 := Aside0.mk (bs HB hg : w.heap.size ≤ gb282); replace HB := Aside0.mk (below_step (bw HB) hb); clear hb hbox hg) | ((with_reducible refine gate_callee (f := 60) rfl ?_); refine goesL_ (some 12) rfl rfl Tryz.func60 (by kernel_rfl) rfl #[.int .i64 a0] rfl (by (try simp only [List.map_toArray, List.map_cons, List.map_nil]); first | done | rfl | (simp only [List.length_drop, List.length_take]; rfl)) ?_; (with_reducible refine (texts_size.calls a0 t283 _ A3.out).mono ?_); rintro e w19 ⟨rfl, hb⟩; refine ⟨_, rfl, ?_⟩; replace BK282 := Aside0.mk (bb BK282 hb); replace HB := Aside0.mk (below_step (bw HB) hb); (try clear hb); (try clear hb2); (try clear hk); (try clear hi); obtain ⟨hcz20_0, hcz20_1, hfz20_0, hfz20_1⟩ := cf2 BK282))
  refine bodyPost_ret (results_ct rfl _ _ gb282 23 #[.int .i64 0, .int .i64 0] (0, 0) _ rfl (by (with_reducible repeat (first | refine blk_drewN ?_ _ | refine blk_drew ?_ | refine blk_alloc ?_ _)); refine blk_put (cs := #[.int .i64 0, .int .i64 0]) ?_ 1 _ rfl; (with_reducible repeat (first | refine blk_drewN ?_ _ | refine blk_drew ?_ | refine blk_alloc ?_ _)); refine blk_put (cs := #[.int .i64 0, .int .i64 0]) ?_ 0 _ rfl; (with_reducible repeat (first | refine blk_drewN ?_ _ | refine blk_drew ?_ | refine blk_alloc ?_ _)); exact BK282.out) Tryz.underlying23 rfl (by kernel_rfl)) rfl ?_
  exact ⟨by first | rfl | (simp [errW_none, errW_some] <;> rfl) | (simp [*, errW_none, errW_some] <;> rfl), bw HB⟩
end Go.Proofs.YtckbmniiecbalaaGreatDoor.PT
