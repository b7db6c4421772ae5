-- written by a program of this session out of the kit's print (its words and its form)
import Derived.Test.YtckbmniiecbalaaGreatDoorPTgSa
import Derived.Test.YtckbmniiecbalaaGreatDoorPTgSc
import Derived.Test.YtckbmniiecbalaaGreatDoorPTgSe
import Derived.Test.YtckbmniiecbalaaGreatDoorPTgSf
import Derived.Test.YtckbmniiecbalaaGreatDoorPTgSg
import Derived.Test.YtckbmniiecbalaaGreatDoorPTgTa
import Derived.Test.YtckbmniiecbalaaGreatDoorPTgTc
import Derived.Test.YtckbmniiecbalaaGreatDoorPTgTd
import Derived.Test.YtckbmniiecbalaaGreatDoorPTgTi
import Derived.Test.YtckbmniiecbalaaGreatDoorPTgTk
import Derived.Test.YtckbmniiecbalaaGreatDoorPTsq
import Derived.Test.YtckbmniiecbalaaGreatDoorPTx0
namespace Go.Proofs.YtckbmniiecbalaaGreatDoor.PT
open Go.RowKit Go.Proofs.YtckbmniiecbalaaGreatDoorW.PrintWords Go.Proofs.YtckbmniiecbalaaGreatDoorW.PrintLast Go.Proofs.YtckbmniiecbalaaGreatDoorW.PrintMore
attribute [local go_sem] max2_int min2_int max_two min_two max_three min_three max_four min_four   -- for this text's walks alone
set_option linter.unusedVariables false
set_option linter.unusedSimpArgs false

/-! ### environlaw03_TextsWrites: function 4 -/
mutual
def environlaw03_TextsWrites.j0 : Nat → Int → Bool → Option (Bool)
 | 0, _, _ => none
 | k + 1, x0, x56 => if x56 = true then (some false) else (environlaw03_TextsWrites.l0 k x0 (-2))
def environlaw03_TextsWrites.l0 : Nat → Int → Int → Option (Bool)
 | 0, _, _ => none
 | k + 1, x0, x7 => if x7 ≤ 2 then ((texts_Word.f k x7 x0).bind fun bt481 => ((environref03_Word.f k x7 x0).bind fun bt483 => (if bt481.1.toList = bt483.1.toList then (if bt481.2 = bt483.2 then (environlaw03_TextsWrites.l0 k x0 (wrap64 (x7 + 1))) else (some false)) else (some false)))) else (some true)
end
def environlaw03_TextsWrites.f (k : Nat) (a0 : Int) (a1_0 : Int) (a1_1 : Int) (a2_0 : Int) (a2_1 : Int) (a2_2 : Int) : Option (Bool) := (environlaw03_awake.f k).bind fun t474 => (if t474 = true then ((texts_Whole.f a0 a2_0).bind fun t475 => ((environref03_Whole.f k a0 a2_0).bind fun t476 => (if t475.toList = t476.toList then ((texts_Fixed.f k a1_0 a1_1 a2_0 a2_1).bind fun t477 => ((environref03_Fixed.f k a1_0 a1_1 a2_0 a2_1).bind fun t478 => (if t477.toList = t478.toList then ((texts_Float.f k a1_0 a1_1 a2_0 a2_1 a2_2).bind fun t479 => ((environref03_Float.f k a1_0 a1_1 a2_0 a2_1 a2_2).bind fun t480 => (environlaw03_TextsWrites.j0 k a0 (t479.toList != t480.toList)))) else (environlaw03_TextsWrites.j0 k a0 true)))) else (environlaw03_TextsWrites.j0 k a0 true)))) else (some false))
theorem environlaw03_TextsWrites.mono_l : ∀ k, (∀ y0 y1, LeO (environlaw03_TextsWrites.j0 k y0 y1) (environlaw03_TextsWrites.j0 (k + 1) y0 y1)) ∧ (∀ y0 y1, LeO (environlaw03_TextsWrites.l0 k y0 y1) (environlaw03_TextsWrites.l0 (k + 1) y0 y1))
 | 0 => ⟨fun _ _ r h => by simp [environlaw03_TextsWrites.j0] at h, fun _ _ r h => by simp [environlaw03_TextsWrites.l0] at h⟩
 | k + 1 => by
  obtain ⟨ih0, ih1⟩ := environlaw03_TextsWrites.mono_l k
  refine ⟨?_, ?_⟩
  ·intro y0 y1
   unfold environlaw03_TextsWrites.j0
   repeat' first
   | (with_reducible exact ih0 _ _)
   | (with_reducible exact ih1 _ _)
   | (with_reducible exact environlaw03_awake.mono _)
   | (with_reducible exact environref03_Fixed.mono _ _ _ _ _)
   | (with_reducible exact environref03_Float.mono _ _ _ _ _ _)
   | (with_reducible exact environref03_Whole.mono _ _ _)
   | (with_reducible exact environref03_Word.mono _ _ _)
   | (with_reducible exact texts_Fixed.mono _ _ _ _ _)
   | (with_reducible exact texts_Float.mono _ _ _ _ _ _)
   | (with_reducible exact texts_Word.mono _ _ _)
   | (with_reducible exact LeO.refl _)
   | (with_reducible exact LeO.none _)
   | (with_reducible refine LeO.ite ?_ ?_)
   | (with_reducible refine LeO.bind ?_ (fun _ => ?_))
   | exact ih0 _ _
   | exact ih1 _ _
   | exact environlaw03_awake.mono _
   | exact environref03_Fixed.mono _ _ _ _ _
   | exact environref03_Float.mono _ _ _ _ _ _
   | exact environref03_Whole.mono _ _ _
   | exact environref03_Word.mono _ _ _
   | exact texts_Fixed.mono _ _ _ _ _
   | exact texts_Float.mono _ _ _ _ _ _
   | exact texts_Word.mono _ _ _
   | exact LeO.none _
   | refine LeO.ite ?_ ?_
   | refine LeO.bind ?_ (fun _ => ?_)
  ·intro y0 y1
   unfold environlaw03_TextsWrites.l0
   repeat' first
   | (with_reducible exact ih0 _ _)
   | (with_reducible exact ih1 _ _)
   | (with_reducible exact environlaw03_awake.mono _)
   | (with_reducible exact environref03_Fixed.mono _ _ _ _ _)
   | (with_reducible exact environref03_Float.mono _ _ _ _ _ _)
   | (with_reducible exact environref03_Whole.mono _ _ _)
   | (with_reducible exact environref03_Word.mono _ _ _)
   | (with_reducible exact texts_Fixed.mono _ _ _ _ _)
   | (with_reducible exact texts_Float.mono _ _ _ _ _ _)
   | (with_reducible exact texts_Word.mono _ _ _)
   | (with_reducible exact LeO.refl _)
   | (with_reducible exact LeO.none _)
   | (with_reducible refine LeO.ite ?_ ?_)
   | (with_reducible refine LeO.bind ?_ (fun _ => ?_))
   | exact ih0 _ _
   | exact ih1 _ _
   | exact environlaw03_awake.mono _
   | exact environref03_Fixed.mono _ _ _ _ _
   | exact environref03_Float.mono _ _ _ _ _ _
   | exact environref03_Whole.mono _ _ _
   | exact environref03_Word.mono _ _ _
   | exact texts_Fixed.mono _ _ _ _ _
   | exact texts_Float.mono _ _ _ _ _ _
   | exact texts_Word.mono _ _ _
   | exact LeO.none _
   | refine LeO.ite ?_ ?_
   | refine LeO.bind ?_ (fun _ => ?_)
theorem environlaw03_TextsWrites.mono : ∀ a0 a1 a2 a3 a4 a5 k, LeO (environlaw03_TextsWrites.f k a0 a1 a2 a3 a4 a5) (environlaw03_TextsWrites.f (k + 1) a0 a1 a2 a3 a4 a5) := by
 intro a0 a1 a2 a3 a4 a5 k
 obtain ⟨ih0, ih1⟩ := environlaw03_TextsWrites.mono_l k
 unfold environlaw03_TextsWrites.f
 repeat' first
   | (with_reducible exact ih0 _ _)
   | (with_reducible exact ih1 _ _)
   | (with_reducible exact environlaw03_awake.mono _)
   | (with_reducible exact environref03_Fixed.mono _ _ _ _ _)
   | (with_reducible exact environref03_Float.mono _ _ _ _ _ _)
   | (with_reducible exact environref03_Whole.mono _ _ _)
   | (with_reducible exact environref03_Word.mono _ _ _)
   | (with_reducible exact texts_Fixed.mono _ _ _ _ _)
   | (with_reducible exact texts_Float.mono _ _ _ _ _ _)
   | (with_reducible exact texts_Word.mono _ _ _)
   | (with_reducible exact LeO.refl _)
   | (with_reducible exact LeO.none _)
   | (with_reducible refine LeO.ite ?_ ?_)
   | (with_reducible refine LeO.bind ?_ (fun _ => ?_))
   | exact ih0 _ _
   | exact ih1 _ _
   | exact environlaw03_awake.mono _
   | exact environref03_Fixed.mono _ _ _ _ _
   | exact environref03_Float.mono _ _ _ _ _ _
   | exact environref03_Whole.mono _ _ _
   | exact environref03_Word.mono _ _ _
   | exact texts_Fixed.mono _ _ _ _ _
   | exact texts_Float.mono _ _ _ _ _ _
   | exact texts_Word.mono _ _ _
   | exact LeO.none _
   | refine LeO.ite ?_ ?_
   | refine LeO.bind ?_ (fun _ => ?_)
def environlaw03_TextsWrites.T3 : Bool × List (List Nat × List Nat) := (true, [([], []), ([], []), ([1], [1]), ([0, 2], [0, 2]), ([], []), ([], []), ([5], [5]), ([4, 6, 3], [4, 6]), ([3, 7], [3, 7]), ([8, 7], [8]), ([9], [9]), ([9], [9]), ([11, 9], [9, 11]), ([9], [9]), ([13, 9], [9, 13]), ([10, 12, 14, 9, 9], [9, 10, 12, 14]), ([9], [9]), ([9], [9]), ([17, 9], [9, 17]), ([9], [9]), ([19, 9], [9, 19]), ([16, 18, 20, 15, 9], [9, 16, 18, 20]), ([15, 21, 9], [9, 15, 21]), ([9, 22], [9, 22]), ([23, 21], [23]), ([24], [24]), ([24], [24]), ([26, 24], [24, 26]), ([24], [24]), ([28, 24], [24, 28]), ([24], [24]), ([30, 24], [24, 30]), ([25, 27, 29, 31, 24, 24], [24, 25, 27, 29, 31]), ([24], [24]), ([24], [24]), ([34, 24], [24, 34]), ([24], [24]), ([36, 24], [24, 36]), ([24], [24]), ([38, 24], [24, 38]), ([33, 35, 37, 39, 32, 24], [24, 33, 35, 37, 39]), ([32, 40, 24], [24, 32, 40]), ([24, 41], [24, 41])])
def environlaw03_TextsWrites.B3 : List Nat := [0, 0, 2, 7, 0, 0, 32, 127, 255, 511, 1023, 1023, 3071, 1023, 9215, 32767, 1023, 1023, 132095, 1023, 525311, 2097151, 4194303, 8388607, 16777215, 33554431, 33554431, 100663295, 33554431, 301989887, 33554431, 1107296255, 4294967295, 33554431, 33554431, 17213423615, 33554431, 68753031167, 33554431, 274911461375, 1099511627775, 2199023255551, 4398046511103]
theorem environlaw03_TextsWrites.tab3 : rtab .any (opsOf Tryz.f4 3) = environlaw03_TextsWrites.T3 := by kernel_rfl
theorem environlaw03_TextsWrites.bits3 : waitsOk environlaw03_TextsWrites.T3.2 environlaw03_TextsWrites.B3 = true := by kernel_rfl
set_option maxHeartbeats 8000000 in
set_option maxRecDepth 100000 in
theorem environlaw03_TextsWrites.calls (k : Nat) (a0 : Int) (a1_0 : Int) (a1_1 : Int) (a2_0 : Int) (a2_1 : Int) (a2_2 : Int) (r : Bool) (w : World) (hE : Env w) (h : environlaw03_TextsWrites.f k a0 a1_0 a1_1 a2_0 a2_1 a2_2 = some r) :
  Calls Tryz.prog 4 #[.int .i64 a0, .agg #[.int .i64 a1_0, .int .i64 a1_1], .agg #[.int .i64 a2_0, .int .i64 a2_1, .int .i64 a2_2]] w fun e w' => e = .returned (.bool r) ∧ Below w.heap.size w w' := by
 have HE_ := Aside0.mk hE
 clear hE
 have hu23 := Tryz.underlying23
 have hu25 := Tryz.underlying25
 have HB := Aside0.mk (Below.refl w.heap.size w)
 have H : ((environlaw03_awake.f k).bind fun t474 => (if t474 = true then ((texts_Whole.f a0 a2_0).bind fun t475 => ((environref03_Whole.f k a0 a2_0).bind fun t476 => (if t475.toList = t476.toList then ((texts_Fixed.f k a1_0 a1_1 a2_0 a2_1).bind fun t477 => ((environref03_Fixed.f k a1_0 a1_1 a2_0 a2_1).bind fun t478 => (if t477.toList = t478.toList then ((texts_Float.f k a1_0 a1_1 a2_0 a2_1 a2_2).bind fun t479 => ((environref03_Float.f k a1_0 a1_1 a2_0 a2_1 a2_2).bind fun t480 => (environlaw03_TextsWrites.j0 k a0 (t479.toList != t480.toList)))) else (environlaw03_TextsWrites.j0 k a0 true)))) else (environlaw03_TextsWrites.j0 k a0 true)))) else (some false))) = some r := h
 clear h
 replace H := Option.bind_eq_some_iff.mp H
 obtain ⟨t474, A40, H⟩ := H
 replace H : (if t474 = true then ((texts_Whole.f a0 a2_0).bind fun t475 => ((environref03_Whole.f k a0 a2_0).bind fun t476 => (if t475.toList = t476.toList then ((texts_Fixed.f k a1_0 a1_1 a2_0 a2_1).bind fun t477 => ((environref03_Fixed.f k a1_0 a1_1 a2_0 a2_1).bind fun t478 => (if t477.toList = t478.toList then ((texts_Float.f k a1_0 a1_1 a2_0 a2_1 a2_2).bind fun t479 => ((environref03_Float.f k a1_0 a1_1 a2_0 a2_1 a2_2).bind fun t480 => (environlaw03_TextsWrites.j0 k a0 (t479.toList != t480.toList)))) else (environlaw03_TextsWrites.j0 k a0 true)))) else (environlaw03_TextsWrites.j0 k a0 true)))) else (some false)) = some r := H
 have A4 := Aside0.mk A40
 clear A40
 by_cases c5 : t474 = true
 ·subst c5
  have H1 : ((texts_Whole.f a0 a2_0).bind fun t475 => ((environref03_Whole.f k a0 a2_0).bind fun t476 => (if t475.toList = t476.toList then ((texts_Fixed.f k a1_0 a1_1 a2_0 a2_1).bind fun t477 => ((environref03_Fixed.f k a1_0 a1_1 a2_0 a2_1).bind fun t478 => (if t477.toList = t478.toList then ((texts_Float.f k a1_0 a1_1 a2_0 a2_1 a2_2).bind fun t479 => ((environref03_Float.f k a1_0 a1_1 a2_0 a2_1 a2_2).bind fun t480 => (environlaw03_TextsWrites.j0 k a0 (t479.toList != t480.toList)))) else (environlaw03_TextsWrites.j0 k a0 true)))) else (environlaw03_TextsWrites.j0 k a0 true)))) = some r := by rw [if_pos rfl] at H; exact H
  clear H
  have H := H1
  clear H1
  have HC6 := Aside0.mk H
  clear H
  go_enter Tryz.func4, Tryz.ntmps4
  go_upto_region 3 with (first | ((with_reducible refine gate_dst (N := 4) rfl ?_); refine box_event ?hg (N := 4) ?hd (cs := #[.int .i64 a1_0, .int .i64 a1_1]) (t := 23) ?hr ?_; (case hd => rfl); (case hg => rfl); (case hr => first | (go_simp; done) | (go_simp; rfl)); intro gb472 hg w7 hbox hb; have BK472 := Aside0.mk (hbox); have GW472 := Aside0.mk (bs HB hg : w.heap.size ≤ gb472); replace HB := Aside0.mk (below_step (bw HB) hb); clear hb hbox hg) | ((with_reducible refine gate_dst (N := 5) rfl ?_); refine box_event ?hg (N := 5) ?hd (cs := #[.int .i64 a2_0, .int .i64 a2_1, .int .i64 a2_2]) (t := 25) ?hr ?_; (case hd => rfl); (case hg => rfl); (case hr => first | (go_simp; done) | (go_simp; rfl)); intro gb473 hg w8 hbox hb; have BK473 := Aside0.mk (hbox); have GW473 := Aside0.mk (bs HB hg : w.heap.size ≤ gb473); replace HB := Aside0.mk (below_step (bw HB) hb); have NB472_473 := Aside0.mk (nl BK472 hg); have NB473_472 := Aside0.mk (ng BK472 hg); replace BK472 := Aside0.mk (bb BK472 hb); clear hb hbox hg) | ((with_reducible refine gate_callee (f := 7) rfl ?_); refine goesL_ (some 12) rfl rfl Tryz.func7 (by kernel_rfl) rfl #[] rfl (by (try simp only [List.map_toArray, List.map_cons, List.map_nil]); first | done | rfl | (simp only [List.length_drop, List.length_take]; rfl)) ?_; (with_reducible refine (environlaw03_awake.calls k  true _ (env_at HE_.out (bw HB)) A4.out).mono ?_); rintro e w9 ⟨rfl, hb⟩; refine ⟨_, rfl, ?_⟩; replace BK472 := Aside0.mk (bb BK472 hb); replace BK473 := Aside0.mk (bb BK473 hb); replace HB := Aside0.mk (below_step (bw HB) hb); (try clear hb); (try clear hb2); (try clear hk); (try clear hi)))
  (try simp only [sx])
  go_cut [56] (fun v56 wc => ∃ (kq : Nat) (x56_5 : Bool), v56 = .bool x56_5 ∧ Aside0 (environlaw03_TextsWrites.j0 kq a0 x56_5 = some r) ∧ Aside0 (kq ≤ k) ∧ Aside0 (wc.heap[gb472]? = some (.cells #[.int .i64 a1_0, .int .i64 a1_1] 23 (0, 0))) ∧ Aside0 (wc.heap[gb473]? = some (.cells #[.int .i64 a2_0, .int .i64 a2_1, .int .i64 a2_2] 25 (0, 0))) ∧ Aside0 (Below w.heap.size w wc))
  case first =>
   have H := HC6.out
   clear HC6
   replace H := Option.bind_eq_some_iff.mp H
   obtain ⟨t475, A100, H⟩ := H
   replace H : ((environref03_Whole.f k a0 a2_0).bind fun t476 => (if t475.toList = t476.toList then ((texts_Fixed.f k a1_0 a1_1 a2_0 a2_1).bind fun t477 => ((environref03_Fixed.f k a1_0 a1_1 a2_0 a2_1).bind fun t478 => (if t477.toList = t478.toList then ((texts_Float.f k a1_0 a1_1 a2_0 a2_1 a2_2).bind fun t479 => ((environref03_Float.f k a1_0 a1_1 a2_0 a2_1 a2_2).bind fun t480 => (environlaw03_TextsWrites.j0 k a0 (t479.toList != t480.toList)))) else (environlaw03_TextsWrites.j0 k a0 true)))) else (environlaw03_TextsWrites.j0 k a0 true))) = some r := H
   have A10 := Aside0.mk A100
   clear A100
   replace H := Option.bind_eq_some_iff.mp H
   obtain ⟨t476, A110, H⟩ := H
   replace H : (if t475.toList = t476.toList then ((texts_Fixed.f k a1_0 a1_1 a2_0 a2_1).bind fun t477 => ((environref03_Fixed.f k a1_0 a1_1 a2_0 a2_1).bind fun t478 => (if t477.toList = t478.toList then ((texts_Float.f k a1_0 a1_1 a2_0 a2_1 a2_2).bind fun t479 => ((environref03_Float.f k a1_0 a1_1 a2_0 a2_1 a2_2).bind fun t480 => (environlaw03_TextsWrites.j0 k a0 (t479.toList != t480.toList)))) else (environlaw03_TextsWrites.j0 k a0 true)))) else (environlaw03_TextsWrites.j0 k a0 true)) = some r := H
   have A11 := Aside0.mk A110
   clear A110
   by_cases c12 : t475.toList = t476.toList
   ·rw [if_pos c12] at H
    have c12b0 : (t475.toList == t476.toList) = true := beq_iff_eq.mpr c12
    have c12b1 : (t475.toList != t476.toList) = false := bne_eq_false_iff_eq.mpr c12
    clear c12
    (first | rw [c12b0] | (simp only [i64_w, i32_w]; rw [c12b0]) | skip)
    replace H := Option.bind_eq_some_iff.mp H
    obtain ⟨t477, A130, H⟩ := H
    replace H : ((environref03_Fixed.f k a1_0 a1_1 a2_0 a2_1).bind fun t478 => (if t477.toList = t478.toList then ((texts_Float.f k a1_0 a1_1 a2_0 a2_1 a2_2).bind fun t479 => ((environref03_Float.f k a1_0 a1_1 a2_0 a2_1 a2_2).bind fun t480 => (environlaw03_TextsWrites.j0 k a0 (t479.toList != t480.toList)))) else (environlaw03_TextsWrites.j0 k a0 true))) = some r := H
    have A13 := Aside0.mk A130
    clear A130
    replace H := Option.bind_eq_some_iff.mp H
    obtain ⟨t478, A140, H⟩ := H
    replace H : (if t477.toList = t478.toList then ((texts_Float.f k a1_0 a1_1 a2_0 a2_1 a2_2).bind fun t479 => ((environref03_Float.f k a1_0 a1_1 a2_0 a2_1 a2_2).bind fun t480 => (environlaw03_TextsWrites.j0 k a0 (t479.toList != t480.toList)))) else (environlaw03_TextsWrites.j0 k a0 true)) = some r := H
    have A14 := Aside0.mk A140
    clear A140
    by_cases c15 : t477.toList = t478.toList
    ·rw [if_pos c15] at H
     have c15b0 : (t477.toList == t478.toList) = true := beq_iff_eq.mpr c15
     have c15b1 : (t477.toList != t478.toList) = false := bne_eq_false_iff_eq.mpr c15
     clear c15
     replace H := Option.bind_eq_some_iff.mp H
     obtain ⟨t479, A160, H⟩ := H
     replace H : ((environref03_Float.f k a1_0 a1_1 a2_0 a2_1 a2_2).bind fun t480 => (environlaw03_TextsWrites.j0 k a0 (t479.toList != t480.toList))) = some r := H
     have A16 := Aside0.mk A160
     clear A160
     replace H := Option.bind_eq_some_iff.mp H
     obtain ⟨t480, A170, H⟩ := H
     replace H : (environlaw03_TextsWrites.j0 k a0 (t479.toList != t480.toList)) = some r := H
     have A17 := Aside0.mk A170
     clear A170
     have H' := Aside0.mk H
     clear H
     try go_wp2
     replace BK472 := Aside0.mk (blk_drew BK472.out)
     replace BK473 := Aside0.mk (blk_drew BK473.out)
     replace HB := Aside0.mk (below_drew1 HB.out)
     refine start_ (n := 43) (S := fun w' => w'.cell? ⟨gb473, 0, none⟩ = some (.int .i64 a2_0) ∧ w'.cell? ⟨gb473, 1, none⟩ = some (.int .i64 a2_1) ∧ w'.cell? ⟨gb473, 2, none⟩ = some (.int .i64 a2_2) ∧ w'.cell? ⟨gb472, 0, none⟩ = some (.int .i64 a1_0) ∧ w'.cell? ⟨gb472, 1, none⟩ = some (.int .i64 a1_1)) (ds := []) #[false, false, false, false, false, false, false, false, false, false, false, false, false, false, false, false, false, false, false, false, false, false, false, false, false, false, false, false, false, false, false, false, false, false, false, false, false, false, false, false, false, false, false] (by kernel_rfl) rfl rfl ⟨(blk_cell BK473.out 0).trans rfl, (blk_cell BK473.out 1).trans rfl, (blk_cell BK473.out 2).trans rfl, (blk_cell BK472.out 0).trans rfl, (blk_cell BK472.out 1).trans rfl⟩ (fun hHeld => ?_); refine with_tabW environlaw03_TextsWrites.tab3 environlaw03_TextsWrites.bits3 (fun HT_ HW_ => ?_)
     generalize w9.drew = w18 at BK472 BK473 HB hHeld ⊢
     refine pu 0 14 (bl 43 1) HT_ ?_
     refine pu 1 15 (bl 43 3) HT_ ?_
     refine pu 4 18 (bl 43 19) HT_ ?_
     refine pu 5 19 (bl 43 51) HT_ ?_
     refine ta 2 16 (bl 43 55) HT_ HW_ hHeld ?_
     refine ta 6 20 (bl 43 119) HT_ HW_ hHeld ?_
     refine one_ (i := 3) (N := some 17) #[true, true, true, true, true, true, true, false, false, false, false, false, false, false, false, false, false, false, false, false, false, false, false, false, false, false, false, false, false, false, false, false, false, false, false, false, false, false, false, false, false, false, false] rfl rfl (one_of HT_.out (by kernel_rfl)) (by decide) (fun K hK => ?_)
     refine goes_ Tryz.func8 (by kernel_rfl) rfl #[.int .i64 a0, .int .i64 a2_0] (by rfl) rfl rfl (by (try simp only [List.map_toArray, List.map_cons, List.map_nil]); first | done | rfl | (simp only [List.length_drop, List.length_take]; rfl)) ?_
     with_reducible refine (texts_Whole.calls a0 a2_0 t475 _ (env_at HE_.out (bw HB)) A10.out).mono ?_
     rintro e w19 ⟨rfl, hb⟩
     refine ⟨_, rfl, ?_⟩
     replace BK472 := Aside0.mk (bb BK472 hb)
     replace BK473 := Aside0.mk (bb BK473 hb)
     replace HB := Aside0.mk (below_step (bw HB) hb)
     (try clear hb)
     (try clear hb2)
     (try clear hk)
     (try clear hi)
     refine hK.out _ _ ⟨(blk_cell BK473.out 0).trans rfl, (blk_cell BK473.out 1).trans rfl, (blk_cell BK473.out 2).trans rfl, (blk_cell BK472.out 0).trans rfl, (blk_cell BK472.out 1).trans rfl⟩ (fun hHeld => ?_)
     clear hK K
     refine norm_ (a' := ?_) ?_ ?_
     rotate_left
     ·show Act.put _ (some 17) _ = _
      simp only [sx, i64_w, i32_w]
      rfl
     refine one_ (i := 7) (N := some 21) #[true, true, true, true, true, true, true, true, false, false, false, false, false, false, false, false, false, false, false, false, false, false, false, false, false, false, false, false, false, false, false, false, false, false, false, false, false, false, false, false, false, false, false] rfl rfl (one_of HT_.out (by kernel_rfl)) (by decide) (fun K hK => ?_)
     refine goes_ Tryz.func13 (by kernel_rfl) rfl #[.int .i64 a0, .int .i64 a2_0] (by rfl) rfl rfl (by (try simp only [List.map_toArray, List.map_cons, List.map_nil]); first | done | rfl | (simp only [List.length_drop, List.length_take]; rfl)) ?_
     with_reducible refine (environref03_Whole.calls k a0 a2_0 t476 _ A11.out).mono ?_
     rintro e w20 ⟨rfl, hb⟩
     refine ⟨_, rfl, ?_⟩
     replace BK472 := Aside0.mk (bb BK472 hb)
     replace BK473 := Aside0.mk (bb BK473 hb)
     replace HB := Aside0.mk (below_step (bw HB) hb)
     (try clear hb)
     (try clear hb2)
     (try clear hk)
     (try clear hi)
     refine hK.out _ _ ⟨(blk_cell BK473.out 0).trans rfl, (blk_cell BK473.out 1).trans rfl, (blk_cell BK473.out 2).trans rfl, (blk_cell BK472.out 0).trans rfl, (blk_cell BK472.out 1).trans rfl⟩ (fun hHeld => ?_)
     clear hK K
     refine norm_ (a' := ?_) ?_ ?_
     rotate_left
     ·show Act.put _ (some 21) _ = _
      simp only [sx, i64_w, i32_w]
      rfl
     refine pu 8 22 (bl 43 511) HT_ ?_
     refine pu 9 23 (bl 43 1023) HT_ ?_
     refine pu 11 25 (bl 43 3071) HT_ ?_
     refine pu 13 27 (bl 43 11263) HT_ ?_
     refine pu 17 31 (bl 43 142335) HT_ ?_
     refine pu 19 33 (bl 43 666623) HT_ ?_
     refine ta 10 24 (bl 43 667647) HT_ HW_ hHeld ?_
     refine ta 12 26 (bl 43 671743) HT_ HW_ hHeld ?_
     refine ta 14 28 (bl 43 688127) HT_ HW_ hHeld ?_
     refine ta 16 30 (bl 43 753663) HT_ HW_ hHeld ?_
     refine ta 18 32 (bl 43 1015807) HT_ HW_ hHeld ?_
     refine ta 20 34 (bl 43 2064383) HT_ HW_ hHeld ?_
     refine one_ (i := 15) (N := some 29) #[true, true, true, true, true, true, true, true, true, true, true, true, true, true, true, true, true, true, true, true, true, false, false, false, false, false, false, false, false, false, false, false, false, false, false, false, false, false, false, false, false, false, false] rfl rfl (one_of HT_.out (by kernel_rfl)) (by decide) (fun K hK => ?_)
     refine goes_ Tryz.func9 (by kernel_rfl) rfl #[.agg #[.int .i64 a1_0, .int .i64 a1_1], .int .i64 a2_0, .int .i64 a2_1] (by rfl) rfl rfl (by (try simp only [List.map_toArray, List.map_cons, List.map_nil]); first | done | rfl | (simp only [List.length_drop, List.length_take]; rfl)) ?_
     with_reducible refine (texts_Fixed.calls k a1_0 a1_1 a2_0 a2_1 t477 _ (env_at HE_.out (bw HB)) A13.out).mono ?_
     rintro e w21 ⟨rfl, hb⟩
     refine ⟨_, rfl, ?_⟩
     replace BK472 := Aside0.mk (bb BK472 hb)
     replace BK473 := Aside0.mk (bb BK473 hb)
     replace HB := Aside0.mk (below_step (bw HB) hb)
     (try clear hb)
     (try clear hb2)
     (try clear hk)
     (try clear hi)
     refine hK.out _ _ ⟨(blk_cell BK473.out 0).trans rfl, (blk_cell BK473.out 1).trans rfl, (blk_cell BK473.out 2).trans rfl, (blk_cell BK472.out 0).trans rfl, (blk_cell BK472.out 1).trans rfl⟩ (fun hHeld => ?_)
     clear hK K
     refine norm_ (a' := ?_) ?_ ?_
     rotate_left
     ·show Act.put _ (some 29) _ = _
      simp only [sx, i64_w, i32_w]
      rfl
     refine one_ (i := 21) (N := some 35) #[true, true, true, true, true, true, true, true, true, true, true, true, true, true, true, true, true, true, true, true, true, true, false, false, false, false, false, false, false, false, false, false, false, false, false, false, false, false, false, false, false, false, false] rfl rfl (one_of HT_.out (by kernel_rfl)) (by decide) (fun K hK => ?_)
     refine goes_ Tryz.func14 (by kernel_rfl) rfl #[.agg #[.int .i64 a1_0, .int .i64 a1_1], .int .i64 a2_0, .int .i64 a2_1] (by rfl) rfl rfl (by (try simp only [List.map_toArray, List.map_cons, List.map_nil]); first | done | rfl | (simp only [List.length_drop, List.length_take]; rfl)) ?_
     with_reducible refine (environref03_Fixed.calls k a1_0 a1_1 a2_0 a2_1 t478 _ A14.out).mono ?_
     rintro e w22 ⟨rfl, hb⟩
     refine ⟨_, rfl, ?_⟩
     replace BK472 := Aside0.mk (bb BK472 hb)
     replace BK473 := Aside0.mk (bb BK473 hb)
     replace HB := Aside0.mk (below_step (bw HB) hb)
     (try clear hb)
     (try clear hb2)
     (try clear hk)
     (try clear hi)
     refine hK.out _ _ ⟨(blk_cell BK473.out 0).trans rfl, (blk_cell BK473.out 1).trans rfl, (blk_cell BK473.out 2).trans rfl, (blk_cell BK472.out 0).trans rfl, (blk_cell BK472.out 1).trans rfl⟩ (fun hHeld => ?_)
     clear hK K
     refine norm_ (a' := ?_) ?_ ?_
     rotate_left
     ·show Act.put _ (some 35) _ = _
      simp only [sx, i64_w, i32_w]
      rfl
     refine pu 22 36 (bl 43 8388607) HT_ ?_
     refine pu 23 37 (bl 43 16777215) HT_ ?_
     refine pu 24 38 (bl 43 33554431) HT_ ?_
     refine pu 26 40 (bl 43 100663295) HT_ ?_
     refine pu 28 42 (bl 43 369098751) HT_ ?_
     refine pu 30 44 (bl 43 1442840575) HT_ ?_
     refine pu 34 48 (bl 43 18622709759) HT_ ?_
     refine pu 36 50 (bl 43 87342186495) HT_ ?_
     refine pu 38 52 (bl 43 362220093439) HT_ ?_
     refine ta 25 39 (bl 43 362253647871) HT_ HW_ hHeld ?_
     refine ta 27 41 (bl 43 362387865599) HT_ HW_ hHeld ?_
     refine ta 29 43 (bl 43 362924736511) HT_ HW_ hHeld ?_
     refine ta 31 45 (bl 43 365072220159) HT_ HW_ hHeld ?_
     refine ta 33 47 (bl 43 373662154751) HT_ HW_ hHeld ?_
     refine ta 35 49 (bl 43 408021893119) HT_ HW_ hHeld ?_
     refine ta 37 51 (bl 43 545460846591) HT_ HW_ hHeld ?_
     refine ta 39 53 (bl 43 1095216660479) HT_ HW_ hHeld ?_
     refine one_ (i := 32) (N := some 46) #[true, true, true, true, true, true, true, true, true, true, true, true, true, true, true, true, true, true, true, true, true, true, true, true, true, true, true, true, true, true, true, true, true, true, true, true, true, true, true, true, false, false, false] rfl rfl (one_of HT_.out (by kernel_rfl)) (by decide) (fun K hK => ?_)
     refine goes_ Tryz.func10 (by kernel_rfl) rfl #[.agg #[.int .i64 a1_0, .int .i64 a1_1], .int .i64 a2_0, .int .i64 a2_1, .int .i64 a2_2] (by rfl) rfl rfl (by (try simp only [List.map_toArray, List.map_cons, List.map_nil]); first | done | rfl | (simp only [List.length_drop, List.length_take]; rfl)) ?_
     with_reducible refine (texts_Float.calls k a1_0 a1_1 a2_0 a2_1 a2_2 t479 _ (env_at HE_.out (bw HB)) A16.out).mono ?_
     rintro e w23 ⟨rfl, hb⟩
     refine ⟨_, rfl, ?_⟩
     replace BK472 := Aside0.mk (bb BK472 hb)
     replace BK473 := Aside0.mk (bb BK473 hb)
     replace HB := Aside0.mk (below_step (bw HB) hb)
     (try clear hb)
     (try clear hb2)
     (try clear hk)
     (try clear hi)
     refine hK.out _ _ ⟨(blk_cell BK473.out 0).trans rfl, (blk_cell BK473.out 1).trans rfl, (blk_cell BK473.out 2).trans rfl, (blk_cell BK472.out 0).trans rfl, (blk_cell BK472.out 1).trans rfl⟩ (fun hHeld => ?_)
     clear hK K
     refine norm_ (a' := ?_) ?_ ?_
     rotate_left
     ·show Act.put _ (some 46) _ = _
      simp only [sx, i64_w, i32_w]
      rfl
     refine one_ (i := 40) (N := some 54) #[true, true, true, true, true, true, true, true, true, true, true, true, true, true, true, true, true, true, true, true, true, true, true, true, true, true, true, true, true, true, true, true, true, true, true, true, true, true, true, true, true, false, false] rfl rfl (one_of HT_.out (by kernel_rfl)) (by decide) (fun K hK => ?_)
     refine goes_ Tryz.func15 (by kernel_rfl) rfl #[.agg #[.int .i64 a1_0, .int .i64 a1_1], .int .i64 a2_0, .int .i64 a2_1, .int .i64 a2_2] (by rfl) rfl rfl (by (try simp only [List.map_toArray, List.map_cons, List.map_nil]); first | done | rfl | (simp only [List.length_drop, List.length_take]; rfl)) ?_
     with_reducible refine (environref03_Float.calls k a1_0 a1_1 a2_0 a2_1 a2_2 t480 _ A17.out).mono ?_
     rintro e w24 ⟨rfl, hb⟩
     refine ⟨_, rfl, ?_⟩
     replace BK472 := Aside0.mk (bb BK472 hb)
     replace BK473 := Aside0.mk (bb BK473 hb)
     replace HB := Aside0.mk (below_step (bw HB) hb)
     (try clear hb)
     (try clear hb2)
     (try clear hk)
     (try clear hi)
     refine hK.out _ _ ⟨(blk_cell BK473.out 0).trans rfl, (blk_cell BK473.out 1).trans rfl, (blk_cell BK473.out 2).trans rfl, (blk_cell BK472.out 0).trans rfl, (blk_cell BK472.out 1).trans rfl⟩ (fun hHeld => ?_)
     clear hK K
     refine norm_ (a' := ?_) ?_ ?_
     rotate_left
     ·show Act.put _ (some 54) _ = _
      simp only [sx, i64_w, i32_w]
      rfl
     refine pu 41 55 (bl 43 4398046511103) HT_ ?_
     refine pu 42 56 (bl 43 8796093022207) HT_ ?_
     refine done_ (done_of HT_.out (by kernel_rfl)) ?_
     try go_wp2
     go_meet
     case rel => exact ⟨_, ((t479.toList != t480.toList)), (by first | rfl | (simp; done) | (simp [*]; done)), H', ⟨by first | omega | exact Nat.le_refl _⟩, ⟨by (with_reducible repeat (first | refine blk_drewN ?_ _ | refine blk_drew ?_ | refine blk_alloc ?_ _)); exact BK472.out⟩, ⟨by (with_reducible repeat (first | refine blk_drewN ?_ _ | refine blk_drew ?_ | refine blk_alloc ?_ _)); exact BK473.out⟩, ⟨bw HB⟩⟩
    ·rw [if_neg c15] at H
     have c15b0 : (t477.toList == t478.toList) = false := beq_eq_false_iff_ne.mpr c15
     have c15b1 : (t477.toList != t478.toList) = true := bne_iff_ne.mpr c15
     have H' := Aside0.mk H
     clear H
     try go_wp2
     replace BK472 := Aside0.mk (blk_drew BK472.out)
     replace BK473 := Aside0.mk (blk_drew BK473.out)
     replace HB := Aside0.mk (below_drew1 HB.out)
     refine start_ (n := 43) (S := fun w' => w'.cell? ⟨gb473, 0, none⟩ = some (.int .i64 a2_0) ∧ w'.cell? ⟨gb473, 1, none⟩ = some (.int .i64 a2_1) ∧ w'.cell? ⟨gb473, 2, none⟩ = some (.int .i64 a2_2) ∧ w'.cell? ⟨gb472, 0, none⟩ = some (.int .i64 a1_0) ∧ w'.cell? ⟨gb472, 1, none⟩ = some (.int .i64 a1_1)) (ds := []) #[false, false, false, false, false, false, false, false, false, false, false, false, false, false, false, false, false, false, false, false, false, false, false, false, false, false, false, false, false, false, false, false, false, false, false, false, false, false, false, false, false, false, false] (by kernel_rfl) rfl rfl ⟨(blk_cell BK473.out 0).trans rfl, (blk_cell BK473.out 1).trans rfl, (blk_cell BK473.out 2).trans rfl, (blk_cell BK472.out 0).trans rfl, (blk_cell BK472.out 1).trans rfl⟩ (fun hHeld => ?_); refine with_tabW environlaw03_TextsWrites.tab3 environlaw03_TextsWrites.bits3 (fun HT_ HW_ => ?_)
     generalize w9.drew = w25 at BK472 BK473 HB hHeld ⊢
     refine pu 0 14 (bl 43 1) HT_ ?_
     refine pu 1 15 (bl 43 3) HT_ ?_
     refine pu 4 18 (bl 43 19) HT_ ?_
     refine pu 5 19 (bl 43 51) HT_ ?_
     refine ta 2 16 (bl 43 55) HT_ HW_ hHeld ?_
     refine ta 6 20 (bl 43 119) HT_ HW_ hHeld ?_
     refine one_ (i := 3) (N := some 17) #[true, true, true, true, true, true, true, false, false, false, false, false, false, false, false, false, false, false, false, false, false, false, false, false, false, false, false, false, false, false, false, false, false, false, false, false, false, false, false, false, false, false, false] rfl rfl (one_of HT_.out (by kernel_rfl)) (by decide) (fun K hK => ?_)
     refine goes_ Tryz.func8 (by kernel_rfl) rfl #[.int .i64 a0, .int .i64 a2_0] (by rfl) rfl rfl (by (try simp only [List.map_toArray, List.map_cons, List.map_nil]); first | done | rfl | (simp only [List.length_drop, List.length_take]; rfl)) ?_
     with_reducible refine (texts_Whole.calls a0 a2_0 t475 _ (env_at HE_.out (bw HB)) A10.out).mono ?_
     rintro e w26 ⟨rfl, hb⟩
     refine ⟨_, rfl, ?_⟩
     replace BK472 := Aside0.mk (bb BK472 hb)
     replace BK473 := Aside0.mk (bb BK473 hb)
     replace HB := Aside0.mk (below_step (bw HB) hb)
     (try clear hb)
     (try clear hb2)
     (try clear hk)
     (try clear hi)
     refine hK.out _ _ ⟨(blk_cell BK473.out 0).trans rfl, (blk_cell BK473.out 1).trans rfl, (blk_cell BK473.out 2).trans rfl, (blk_cell BK472.out 0).trans rfl, (blk_cell BK472.out 1).trans rfl⟩ (fun hHeld => ?_)
     clear hK K
     refine norm_ (a' := ?_) ?_ ?_
     rotate_left
     ·show Act.put _ (some 17) _ = _
      simp only [sx, i64_w, i32_w]
      rfl
     refine one_ (i := 7) (N := some 21) #[true, true, true, true, true, true, true, true, false, false, false, false, false, false, false, false, false, false, false, false, false, false, false, false, false, false, false, false, false, false, false, false, false, false, false, false, false, false, false, false, false, false, false] rfl rfl (one_of HT_.out (by kernel_rfl)) (by decide) (fun K hK => ?_)
     refine goes_ Tryz.func13 (by kernel_rfl) rfl #[.int .i64 a0, .int .i64 a2_0] (by rfl) rfl rfl (by (try simp only [List.map_toArray, List.map_cons, List.map_nil]); first | done | rfl | (simp only [List.length_drop, List.length_take]; rfl)) ?_
     with_reducible refine (environref03_Whole.calls k a0 a2_0 t476 _ A11.out).mono ?_
     rintro e w27 ⟨rfl, hb⟩
     refine ⟨_, rfl, ?_⟩
     replace BK472 := Aside0.mk (bb BK472 hb)
     replace BK473 := Aside0.mk (bb BK473 hb)
     replace HB := Aside0.mk (below_step (bw HB) hb)
     (try clear hb)
     (try clear hb2)
     (try clear hk)
     (try clear hi)
     refine hK.out _ _ ⟨(blk_cell BK473.out 0).trans rfl, (blk_cell BK473.out 1).trans rfl, (blk_cell BK473.out 2).trans rfl, (blk_cell BK472.out 0).trans rfl, (blk_cell BK472.out 1).trans rfl⟩ (fun hHeld => ?_)
     clear hK K
     refine norm_ (a' := ?_) ?_ ?_
     rotate_left
     ·show Act.put _ (some 21) _ = _
      simp only [sx, i64_w, i32_w]
      rfl
     refine pu 8 22 (bl 43 511) HT_ ?_
     refine pu 9 23 (bl 43 1023) HT_ ?_
     refine pu 11 25 (bl 43 3071) HT_ ?_
     refine pu 13 27 (bl 43 11263) HT_ ?_
     refine pu 17 31 (bl 43 142335) HT_ ?_
     refine pu 19 33 (bl 43 666623) HT_ ?_
     refine ta 10 24 (bl 43 667647) HT_ HW_ hHeld ?_
     refine ta 12 26 (bl 43 671743) HT_ HW_ hHeld ?_
     refine ta 14 28 (bl 43 688127) HT_ HW_ hHeld ?_
     refine ta 16 30 (bl 43 753663) HT_ HW_ hHeld ?_
     refine ta 18 32 (bl 43 1015807) HT_ HW_ hHeld ?_
     refine ta 20 34 (bl 43 2064383) HT_ HW_ hHeld ?_
     refine one_ (i := 15) (N := some 29) #[true, true, true, true, true, true, true, true, true, true, true, true, true, true, true, true, true, true, true, true, true, false, false, false, false, false, false, false, false, false, false, false, false, false, false, false, false, false, false, false, false, false, false] rfl rfl (one_of HT_.out (by kernel_rfl)) (by decide) (fun K hK => ?_)
     refine goes_ Tryz.func9 (by kernel_rfl) rfl #[.agg #[.int .i64 a1_0, .int .i64 a1_1], .int .i64 a2_0, .int .i64 a2_1] (by rfl) rfl rfl (by (try simp only [List.map_toArray, List.map_cons, List.map_nil]); first | done | rfl | (simp only [List.length_drop, List.length_take]; rfl)) ?_
     with_reducible refine (texts_Fixed.calls k a1_0 a1_1 a2_0 a2_1 t477 _ (env_at HE_.out (bw HB)) A13.out).mono ?_
     rintro e w28 ⟨rfl, hb⟩
     refine ⟨_, rfl, ?_⟩
     replace BK472 := Aside0.mk (bb BK472 hb)
     replace BK473 := Aside0.mk (bb BK473 hb)
     replace HB := Aside0.mk (below_step (bw HB) hb)
     (try clear hb)
     (try clear hb2)
     (try clear hk)
     (try clear hi)
     refine hK.out _ _ ⟨(blk_cell BK473.out 0).trans rfl, (blk_cell BK473.out 1).trans rfl, (blk_cell BK473.out 2).trans rfl, (blk_cell BK472.out 0).trans rfl, (blk_cell BK472.out 1).trans rfl⟩ (fun hHeld => ?_)
     clear hK K
     refine norm_ (a' := ?_) ?_ ?_
     rotate_left
     ·show Act.put _ (some 29) _ = _
      simp only [sx, i64_w, i32_w]
      rfl
     refine one_ (i := 21) (N := some 35) #[true, true, true, true, true, true, true, true, true, true, true, true, true, true, true, true, true, true, true, true, true, true, false, false, false, false, false, false, false, false, false, false, false, false, false, false, false, false, false, false, false, false, false] rfl rfl (one_of HT_.out (by kernel_rfl)) (by decide) (fun K hK => ?_)
     refine goes_ Tryz.func14 (by kernel_rfl) rfl #[.agg #[.int .i64 a1_0, .int .i64 a1_1], .int .i64 a2_0, .int .i64 a2_1] (by rfl) rfl rfl (by (try simp only [List.map_toArray, List.map_cons, List.map_nil]); first | done | rfl | (simp only [List.length_drop, List.length_take]; rfl)) ?_
     with_reducible refine (environref03_Fixed.calls k a1_0 a1_1 a2_0 a2_1 t478 _ A14.out).mono ?_
     rintro e w29 ⟨rfl, hb⟩
     refine ⟨_, rfl, ?_⟩
     replace BK472 := Aside0.mk (bb BK472 hb)
     replace BK473 := Aside0.mk (bb BK473 hb)
     replace HB := Aside0.mk (below_step (bw HB) hb)
     (try clear hb)
     (try clear hb2)
     (try clear hk)
     (try clear hi)
     refine hK.out _ _ ⟨(blk_cell BK473.out 0).trans rfl, (blk_cell BK473.out 1).trans rfl, (blk_cell BK473.out 2).trans rfl, (blk_cell BK472.out 0).trans rfl, (blk_cell BK472.out 1).trans rfl⟩ (fun hHeld => ?_)
     clear hK K
     refine norm_ (a' := ?_) ?_ ?_
     rotate_left
     ·show Act.put _ (some 35) _ = _
      simp only [sx, i64_w, i32_w]
      rfl
     refine pu 22 36 (bl 43 8388607) HT_ ?_
     refine pu 23 37 (bl 43 16777215) HT_ ?_
     refine pu 24 38 (bl 43 33554431) HT_ ?_
     refine pun 25 39 (bl 43 67108863) HT_ ?_
     refine pun 26 40 (bl 43 134217727) HT_ ?_
     refine pun 27 41 (bl 43 268435455) HT_ ?_
     refine pun 28 42 (bl 43 536870911) HT_ ?_
     refine pun 29 43 (bl 43 1073741823) HT_ ?_
     refine pun 30 44 (bl 43 2147483647) HT_ ?_
     refine pun 31 45 (bl 43 4294967295) HT_ ?_
     refine pun 32 46 (bl 43 8589934591) HT_ ?_
     refine pun 33 47 (bl 43 17179869183) HT_ ?_
     refine pun 34 48 (bl 43 34359738367) HT_ ?_
     refine pun 35 49 (bl 43 68719476735) HT_ ?_
     refine pun 36 50 (bl 43 137438953471) HT_ ?_
     refine pun 37 51 (bl 43 274877906943) HT_ ?_
     refine pun 38 52 (bl 43 549755813887) HT_ ?_
     refine pun 39 53 (bl 43 1099511627775) HT_ ?_
     refine pun 40 54 (bl 43 2199023255551) HT_ ?_
     refine pun 41 55 (bl 43 4398046511103) HT_ ?_
     refine pu 42 56 (bl 43 8796093022207) HT_ ?_
     refine done_ (done_of HT_.out (by kernel_rfl)) ?_
     try go_wp2
     go_meet
     case rel => exact ⟨_, (true), (by first | rfl | (simp; done) | (simp [*]; done)), H', ⟨by first | omega | exact Nat.le_refl _⟩, ⟨by (with_reducible repeat (first | refine blk_drewN ?_ _ | refine blk_drew ?_ | refine blk_alloc ?_ _)); exact BK472.out⟩, ⟨by (with_reducible repeat (first | refine blk_drewN ?_ _ | refine blk_drew ?_ | refine blk_alloc ?_ _)); exact BK473.out⟩, ⟨bw HB⟩⟩
   ·rw [if_neg c12] at H
    have c12b0 : (t475.toList == t476.toList) = false := beq_eq_false_iff_ne.mpr c12
    have c12b1 : (t475.toList != t476.toList) = true := bne_iff_ne.mpr c12
    (first | rw [c12b0] | (simp only [i64_w, i32_w]; rw [c12b0]) | skip)
    have H' := Aside0.mk H
    clear H
    try go_wp2
    replace BK472 := Aside0.mk (blk_drew BK472.out)
    replace BK473 := Aside0.mk (blk_drew BK473.out)
    replace HB := Aside0.mk (below_drew1 HB.out)
    refine start_ (n := 43) (S := fun w' => w'.cell? ⟨gb473, 0, none⟩ = some (.int .i64 a2_0) ∧ w'.cell? ⟨gb473, 1, none⟩ = some (.int .i64 a2_1) ∧ w'.cell? ⟨gb473, 2, none⟩ = some (.int .i64 a2_2)) (ds := []) #[false, false, false, false, false, false, false, false, false, false, false, false, false, false, false, false, false, false, false, false, false, false, false, false, false, false, false, false, false, false, false, false, false, false, false, false, false, false, false, false, false, false, false] (by kernel_rfl) rfl rfl ⟨(blk_cell BK473.out 0).trans rfl, (blk_cell BK473.out 1).trans rfl, (blk_cell BK473.out 2).trans rfl⟩ (fun hHeld => ?_); refine with_tabW environlaw03_TextsWrites.tab3 environlaw03_TextsWrites.bits3 (fun HT_ HW_ => ?_)
    generalize w9.drew = w30 at BK472 BK473 HB hHeld ⊢
    refine pu 0 14 (bl 43 1) HT_ ?_
    refine pu 1 15 (bl 43 3) HT_ ?_
    refine pu 4 18 (bl 43 19) HT_ ?_
    refine pu 5 19 (bl 43 51) HT_ ?_
    refine ta 2 16 (bl 43 55) HT_ HW_ hHeld ?_
    refine ta 6 20 (bl 43 119) HT_ HW_ hHeld ?_
    refine one_ (i := 3) (N := some 17) #[true, true, true, true, true, true, true, false, false, false, false, false, false, false, false, false, false, false, false, false, false, false, false, false, false, false, false, false, false, false, false, false, false, false, false, false, false, false, false, false, false, false, false] rfl rfl (one_of HT_.out (by kernel_rfl)) (by decide) (fun K hK => ?_)
    refine goes_ Tryz.func8 (by kernel_rfl) rfl #[.int .i64 a0, .int .i64 a2_0] (by rfl) rfl rfl (by (try simp only [List.map_toArray, List.map_cons, List.map_nil]); first | done | rfl | (simp only [List.length_drop, List.length_take]; rfl)) ?_
    with_reducible refine (texts_Whole.calls a0 a2_0 t475 _ (env_at HE_.out (bw HB)) A10.out).mono ?_
    rintro e w31 ⟨rfl, hb⟩
    refine ⟨_, rfl, ?_⟩
    replace BK472 := Aside0.mk (bb BK472 hb)
    replace BK473 := Aside0.mk (bb BK473 hb)
    replace HB := Aside0.mk (below_step (bw HB) hb)
    (try clear hb)
    (try clear hb2)
    (try clear hk)
    (try clear hi)
    refine hK.out _ _ ⟨(blk_cell BK473.out 0).trans rfl, (blk_cell BK473.out 1).trans rfl, (blk_cell BK473.out 2).trans rfl⟩ (fun hHeld => ?_)
    clear hK K
    refine norm_ (a' := ?_) ?_ ?_
    rotate_left
    ·show Act.put _ (some 17) _ = _
     simp only [sx, i64_w, i32_w]
     rfl
    refine one_ (i := 7) (N := some 21) #[true, true, true, true, true, true, true, true, false, false, false, false, false, false, false, false, false, false, false, false, false, false, false, false, false, false, false, false, false, false, false, false, false, false, false, false, false, false, false, false, false, false, false] rfl rfl (one_of HT_.out (by kernel_rfl)) (by decide) (fun K hK => ?_)
    refine goes_ Tryz.func13 (by kernel_rfl) rfl #[.int .i64 a0, .int .i64 a2_0] (by rfl) rfl rfl (by (try simp only [List.map_toArray, List.map_cons, List.map_nil]); first | done | rfl | (simp only [List.length_drop, List.length_take]; rfl)) ?_
    with_reducible refine (environref03_Whole.calls k a0 a2_0 t476 _ A11.out).mono ?_
    rintro e w32 ⟨rfl, hb⟩
    refine ⟨_, rfl, ?_⟩
    replace BK472 := Aside0.mk (bb BK472 hb)
    replace BK473 := Aside0.mk (bb BK473 hb)
    replace HB := Aside0.mk (below_step (bw HB) hb)
    (try clear hb)
    (try clear hb2)
    (try clear hk)
    (try clear hi)
    refine hK.out _ _ ⟨(blk_cell BK473.out 0).trans rfl, (blk_cell BK473.out 1).trans rfl, (blk_cell BK473.out 2).trans rfl⟩ (fun hHeld => ?_)
    clear hK K
    refine norm_ (a' := ?_) ?_ ?_
    rotate_left
    ·show Act.put _ (some 21) _ = _
     simp only [sx, i64_w, i32_w]
     rfl
    refine pu 8 22 (bl 43 511) HT_ ?_
    refine pu 9 23 (bl 43 1023) HT_ ?_
    refine pun 10 24 (bl 43 2047) HT_ ?_
    refine pun 11 25 (bl 43 4095) HT_ ?_
    refine pun 12 26 (bl 43 8191) HT_ ?_
    refine pun 13 27 (bl 43 16383) HT_ ?_
    refine pun 14 28 (bl 43 32767) HT_ ?_
    refine pun 15 29 (bl 43 65535) HT_ ?_
    refine pun 16 30 (bl 43 131071) HT_ ?_
    refine pun 17 31 (bl 43 262143) HT_ ?_
    refine pun 18 32 (bl 43 524287) HT_ ?_
    refine pun 19 33 (bl 43 1048575) HT_ ?_
    refine pun 20 34 (bl 43 2097151) HT_ ?_
    refine pun 21 35 (bl 43 4194303) HT_ ?_
    refine pun 22 36 (bl 43 8388607) HT_ ?_
    refine pu 23 37 (bl 43 16777215) HT_ ?_
    refine pu 24 38 (bl 43 33554431) HT_ ?_
    refine pun 25 39 (bl 43 67108863) HT_ ?_
    refine pun 26 40 (bl 43 134217727) HT_ ?_
    refine pun 27 41 (bl 43 268435455) HT_ ?_
    refine pun 28 42 (bl 43 536870911) HT_ ?_
    refine pun 29 43 (bl 43 1073741823) HT_ ?_
    refine pun 30 44 (bl 43 2147483647) HT_ ?_
    refine pun 31 45 (bl 43 4294967295) HT_ ?_
    refine pun 32 46 (bl 43 8589934591) HT_ ?_
    refine pun 33 47 (bl 43 17179869183) HT_ ?_
    refine pun 34 48 (bl 43 34359738367) HT_ ?_
    refine pun 35 49 (bl 43 68719476735) HT_ ?_
    refine pun 36 50 (bl 43 137438953471) HT_ ?_
    refine pun 37 51 (bl 43 274877906943) HT_ ?_
    refine pun 38 52 (bl 43 549755813887) HT_ ?_
    refine pun 39 53 (bl 43 1099511627775) HT_ ?_
    refine pun 40 54 (bl 43 2199023255551) HT_ ?_
    refine pun 41 55 (bl 43 4398046511103) HT_ ?_
    refine pu 42 56 (bl 43 8796093022207) HT_ ?_
    refine done_ (done_of HT_.out (by kernel_rfl)) ?_
    try go_wp2
    go_meet
    case rel => exact ⟨_, (true), (by first | rfl | (simp; done) | (simp [*]; done)), H', ⟨by first | omega | exact Nat.le_refl _⟩, ⟨by (with_reducible repeat (first | refine blk_drewN ?_ _ | refine blk_drew ?_ | refine blk_alloc ?_ _)); exact BK472.out⟩, ⟨by (with_reducible repeat (first | refine blk_drewN ?_ _ | refine blk_drew ?_ | refine blk_alloc ?_ _)); exact BK473.out⟩, ⟨bw HB⟩⟩
  case rest =>
   clear HC6
   try clear c1
   try clear p2
   try clear c8
   try clear c9
   try clear c12
   try clear c12b0
   try clear c12b1
   try clear c13
   try clear c14
   obtain ⟨kq, x56_5, rfl, HA, HJ5, BK472, BK473, HB⟩ := hcut
   cases kq with
   | zero => exact absurd HA.out (by simp [environlaw03_TextsWrites.j0])
   | succ kj5 =>
    have H := HA.out
    clear HA
    simp only [environlaw03_TextsWrites.j0] at H
    by_cases c33 : x56_5 = true
    ·subst c33
     have H1 : (some false) = some r := by rw [if_pos rfl] at H; exact H
     clear H
     have H := H1
     clear H1
     obtain rfl := Option.some.inj H
     go_wp2
     go_ret
     exact ⟨by first | rfl | (simp [errW_none, errW_some] <;> rfl) | (simp [*, errW_none, errW_some] <;> rfl), bw HB⟩
    ·replace c33 := Bool.eq_false_iff.mpr c33
     subst c33
     have H1 : (environlaw03_TextsWrites.l0 kj5 a0 (-2)) = some r := by rw [if_neg (show ¬ (false = true) by decide)] at H; exact H
     clear H
     have H := H1
     clear H1
     have H' := Aside0.mk H
     clear H
     go_wp2
     go_loopg [7] kj5 (fun kq v7 w' => ∃ (x7_2 : Int), v7 = .int .i64 x7_2 ∧ Aside0 (environlaw03_TextsWrites.l0 kq a0 x7_2 = some r) ∧ Aside0 (kq ≤ kj5) ∧ Aside0 (w'.heap[gb472]? = some (.cells #[.int .i64 a1_0, .int .i64 a1_1] 23 (0, 0))) ∧ Aside0 (w'.heap[gb473]? = some (.cells #[.int .i64 a2_0, .int .i64 a2_1, .int .i64 a2_2] 25 (0, 0))) ∧ Aside0 (Below w.heap.size w w'))
     case atStart => exact ⟨((-2)), (by first | rfl | (simp; done) | (simp [*]; done)), H', ⟨Nat.le_refl _⟩, ⟨by (with_reducible repeat (first | refine blk_drewN ?_ _ | refine blk_drew ?_ | refine blk_alloc ?_ _)); exact BK472.out⟩, ⟨by (with_reducible repeat (first | refine blk_drewN ?_ _ | refine blk_drew ?_ | refine blk_alloc ?_ _)); exact BK473.out⟩, ⟨bw HB⟩⟩
     case round =>
      clear H'
      try clear c1
      try clear p2
      try clear c3
      try clear c8
      try clear c9
      try clear c12
      try clear c12b0
      try clear c12b1
      try clear c13
      try clear c14
      try clear c33
      try clear p2
      obtain ⟨x7_2, rfl, HA, HK2, BK472, BK473, HB⟩ := hrel
      cases gk with
      | zero => exact absurd HA.out (by simp [environlaw03_TextsWrites.l0])
      | succ k2 =>
       have H := HA.out
       clear HA
       simp only [environlaw03_TextsWrites.l0] at H
       by_cases c34 : x7_2 ≤ 2
       ·rw [if_pos c34] at H
        have c34b0 : decide (x7_2 ≤ 2) = true := decide_eq_true c34
        clear c34
        replace H := Option.bind_eq_some_iff.mp H
        obtain ⟨⟨t481, t482⟩, A350, H⟩ := H
        replace H : ((environref03_Word.f k2 x7_2 a0).bind fun bt483 => (if t481.toList = bt483.1.toList then (if t482 = bt483.2 then (environlaw03_TextsWrites.l0 k2 a0 (wrap64 (x7_2 + 1))) else (some false)) else (some false))) = some r := H
        have A35 := Aside0.mk A350
        clear A350
        replace H := Option.bind_eq_some_iff.mp H
        obtain ⟨⟨t483, t484⟩, A360, H⟩ := H
        replace H : (if t481.toList = t483.toList then (if t482 = t484 then (environlaw03_TextsWrites.l0 k2 a0 (wrap64 (x7_2 + 1))) else (some false)) else (some false)) = some r := H
        have A36 := Aside0.mk A360
        clear A360
        by_cases c37 : t481.toList = t483.toList
        ·rw [if_pos c37] at H
         have c37b0 : (t481.toList == t483.toList) = true := beq_iff_eq.mpr c37
         have c37b1 : (t481.toList != t483.toList) = false := bne_eq_false_iff_eq.mpr c37
         clear c37
         by_cases c38 : t482 = t484
         ·rw [if_pos c38] at H
          have c38b0 : (t482 == t484) = true := beq_iff_eq.mpr c38
          have c38b1 : (t482 != t484) = false := bne_eq_false_iff_eq.mpr c38
          clear c38
          have H' := Aside0.mk H
          clear H
          go_wp2_with (first | ((with_reducible refine gate_callee (f := 16) rfl ?_); refine goesL_ (some 64) rfl rfl Tryz.func16 (by kernel_rfl) rfl #[.int .i64 x7_2, .int .i64 a0] rfl (by (try simp only [List.map_toArray, List.map_cons, List.map_nil]); first | done | rfl | (simp only [List.length_drop, List.length_take]; rfl)) ?_; (with_reducible refine (texts_Word.calls k2 x7_2 a0 t481 t482 _ A35.out).mono ?_); rintro e w39 ⟨rfl, hb⟩; refine ⟨_, rfl, ?_⟩; replace BK472 := Aside0.mk (bb BK472 hb); replace BK473 := Aside0.mk (bb BK473 hb); replace HB := Aside0.mk (below_step (bw HB) hb); (try clear hb); (try clear hb2); (try clear hk); (try clear hi)) | ((with_reducible refine gate_callee (f := 17) rfl ?_); refine goesL_ (some 70) rfl rfl Tryz.func17 (by kernel_rfl) rfl #[.int .i64 x7_2, .int .i64 a0] rfl (by (try simp only [List.map_toArray, List.map_cons, List.map_nil]); first | done | rfl | (simp only [List.length_drop, List.length_take]; rfl)) ?_; (with_reducible refine (environref03_Word.calls k2 x7_2 a0 t483 t484 _ A36.out).mono ?_); rintro e w' ⟨rfl, ⟨nd, rfl⟩⟩; refine ⟨_, rfl, ?_⟩))
          go_roundg k2
          case measure => have := HJ5.out; have := HK2.out; omega
          case rel => exact ⟨(wrap64 (x7_2 + 1)), (by first | rfl | (simp; done) | (simp [*]; done)), H', ⟨by have := HJ5.out; have := HK2.out; omega⟩, ⟨by (with_reducible repeat (first | refine blk_drewN ?_ _ | refine blk_drew ?_ | refine blk_alloc ?_ _)); exact BK472.out⟩, ⟨by (with_reducible repeat (first | refine blk_drewN ?_ _ | refine blk_drew ?_ | refine blk_alloc ?_ _)); exact BK473.out⟩, ⟨bw HB⟩⟩
         ·rw [if_neg c38] at H
          have c38b0 : (t482 == t484) = false := beq_eq_false_iff_ne.mpr c38
          have c38b1 : (t482 != t484) = true := bne_iff_ne.mpr c38
          obtain rfl := Option.some.inj H
          go_wp2_with (first | ((with_reducible refine gate_callee (f := 16) rfl ?_); refine goesL_ (some 64) rfl rfl Tryz.func16 (by kernel_rfl) rfl #[.int .i64 x7_2, .int .i64 a0] rfl (by (try simp only [List.map_toArray, List.map_cons, List.map_nil]); first | done | rfl | (simp only [List.length_drop, List.length_take]; rfl)) ?_; (with_reducible refine (texts_Word.calls k2 x7_2 a0 t481 t482 _ A35.out).mono ?_); rintro e w40 ⟨rfl, hb⟩; refine ⟨_, rfl, ?_⟩; replace BK472 := Aside0.mk (bb BK472 hb); replace BK473 := Aside0.mk (bb BK473 hb); replace HB := Aside0.mk (below_step (bw HB) hb); (try clear hb); (try clear hb2); (try clear hk); (try clear hi)) | ((with_reducible refine gate_callee (f := 17) rfl ?_); refine goesL_ (some 70) rfl rfl Tryz.func17 (by kernel_rfl) rfl #[.int .i64 x7_2, .int .i64 a0] rfl (by (try simp only [List.map_toArray, List.map_cons, List.map_nil]); first | done | rfl | (simp only [List.length_drop, List.length_take]; rfl)) ?_; (with_reducible refine (environref03_Word.calls k2 x7_2 a0 t483 t484 _ A36.out).mono ?_); rintro e w' ⟨rfl, ⟨nd, rfl⟩⟩; refine ⟨_, rfl, ?_⟩))
          go_ret
          exact ⟨by first | rfl | (simp [errW_none, errW_some] <;> rfl) | (simp [*, errW_none, errW_some] <;> rfl), bw HB⟩
        ·rw [if_neg c37] at H
         have c37b0 : (t481.toList == t483.toList) = false := beq_eq_false_iff_ne.mpr c37
         have c37b1 : (t481.toList != t483.toList) = true := bne_iff_ne.mpr c37
         obtain rfl := Option.some.inj H
         go_wp2_with (first | ((with_reducible refine gate_callee (f := 16) rfl ?_); refine goesL_ (some 64) rfl rfl Tryz.func16 (by kernel_rfl) rfl #[.int .i64 x7_2, .int .i64 a0] rfl (by (try simp only [List.map_toArray, List.map_cons, List.map_nil]); first | done | rfl | (simp only [List.length_drop, List.length_take]; rfl)) ?_; (with_reducible refine (texts_Word.calls k2 x7_2 a0 t481 t482 _ A35.out).mono ?_); rintro e w41 ⟨rfl, hb⟩; refine ⟨_, rfl, ?_⟩; replace BK472 := Aside0.mk (bb BK472 hb); replace BK473 := Aside0.mk (bb BK473 hb); replace HB := Aside0.mk (below_step (bw HB) hb); (try clear hb); (try clear hb2); (try clear hk); (try clear hi)) | ((with_reducible refine gate_callee (f := 17) rfl ?_); refine goesL_ (some 70) rfl rfl Tryz.func17 (by kernel_rfl) rfl #[.int .i64 x7_2, .int .i64 a0] rfl (by (try simp only [List.map_toArray, List.map_cons, List.map_nil]); first | done | rfl | (simp only [List.length_drop, List.length_take]; rfl)) ?_; (with_reducible refine (environref03_Word.calls k2 x7_2 a0 t483 t484 _ A36.out).mono ?_); rintro e w' ⟨rfl, ⟨nd, rfl⟩⟩; refine ⟨_, rfl, ?_⟩))
         go_ret
         exact ⟨by first | rfl | (simp [errW_none, errW_some] <;> rfl) | (simp [*, errW_none, errW_some] <;> rfl), bw HB⟩
       ·rw [if_neg c34] at H
        have c34b0 : decide (x7_2 ≤ 2) = false := decide_eq_false c34
        clear c34
        obtain rfl := Option.some.inj H
        go_wp2
        go_ret
        exact ⟨by first | rfl | (simp [errW_none, errW_some] <;> rfl) | (simp [*, errW_none, errW_some] <;> rfl), bw HB⟩
 ·replace c5 := Bool.eq_false_iff.mpr c5
  subst c5
  have H1 : (some false) = some r := by rw [if_neg (show ¬ (false = true) by decide)] at H; exact H
  clear H
  have H := H1
  clear H1
  obtain rfl := Option.some.inj H
  go_enter Tryz.func4, Tryz.ntmps4
  go_wp2_with (first | ((with_reducible refine gate_dst (N := 4) rfl ?_); refine box_event ?hg (N := 4) ?hd (cs := #[.int .i64 a1_0, .int .i64 a1_1]) (t := 23) ?hr ?_; (case hd => rfl); (case hg => rfl); (case hr => first | (go_simp; done) | (go_simp; rfl)); intro gb472 hg w42 hbox hb; have BK472 := Aside0.mk (hbox); have GW472 := Aside0.mk (bs HB hg : w.heap.size ≤ gb472); replace HB := Aside0.mk (below_step (bw HB) hb); clear hb hbox hg) | ((with_reducible refine gate_dst (N := 5) rfl ?_); refine box_event ?hg (N := 5) ?hd (cs := #[.int .i64 a2_0, .int .i64 a2_1, .int .i64 a2_2]) (t := 25) ?hr ?_; (case hd => rfl); (case hg => rfl); (case hr => first | (go_simp; done) | (go_simp; rfl)); intro gb473 hg w43 hbox hb; have BK473 := Aside0.mk (hbox); have GW473 := Aside0.mk (bs HB hg : w.heap.size ≤ gb473); replace HB := Aside0.mk (below_step (bw HB) hb); have NB472_473 := Aside0.mk (nl BK472 hg); have NB473_472 := Aside0.mk (ng BK472 hg); replace BK472 := Aside0.mk (bb BK472 hb); clear hb hbox hg) | ((with_reducible refine gate_callee (f := 7) rfl ?_); refine goesL_ (some 12) rfl rfl Tryz.func7 (by kernel_rfl) rfl #[] rfl (by (try simp only [List.map_toArray, List.map_cons, List.map_nil]); first | done | rfl | (simp only [List.length_drop, List.length_take]; rfl)) ?_; (with_reducible refine (environlaw03_awake.calls k  false _ (env_at HE_.out (bw HB)) A4.out).mono ?_); rintro e w44 ⟨rfl, hb⟩; refine ⟨_, rfl, ?_⟩; replace BK472 := Aside0.mk (bb BK472 hb); replace BK473 := Aside0.mk (bb BK473 hb); replace HB := Aside0.mk (below_step (bw HB) hb); (try clear hb); (try clear hb2); (try clear hk); (try clear hi)))
  go_ret
  exact ⟨by first | rfl | (simp [errW_none, errW_some] <;> rfl) | (simp [*, errW_none, errW_some] <;> rfl), bw HB⟩
end Go.Proofs.YtckbmniiecbalaaGreatDoor.PT
