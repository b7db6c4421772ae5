-- written by a program of this session out of the kit's print (its words and its form)
import Derived.Test.YtckbmniiecbalaaGreatDoorPTgRa
import Derived.Test.YtckbmniiecbalaaGreatDoorPTgSa
import Derived.Test.YtckbmniiecbalaaGreatDoorPTgTa
import Derived.Test.YtckbmniiecbalaaGreatDoorPTgTc
import Derived.Test.YtckbmniiecbalaaGreatDoorPTgTd
import Derived.Test.YtckbmniiecbalaaGreatDoorPTgTg
import Derived.Test.YtckbmniiecbalaaGreatDoorPTgTh
import Derived.Test.YtckbmniiecbalaaGreatDoorPTgTi
import Derived.Test.YtckbmniiecbalaaGreatDoorPTgTk
import Derived.Test.YtckbmniiecbalaaGreatDoorPTgTl
import Derived.Test.YtckbmniiecbalaaGreatDoorPTgTm
import Derived.Test.YtckbmniiecbalaaGreatDoorPTgTn
import Derived.Test.YtckbmniiecbalaaGreatDoorPTsq
import Derived.Test.YtckbmniiecbalaaGreatDoorPTx0
import Derived.Test.YtckbmniiecbalaaGreatDoorPTx1
namespace Go.Proofs.YtckbmniiecbalaaGreatDoor.PT
open Go.RowKit Go.Proofs.YtckbmniiecbalaaGreatDoorW.PrintWords Go.Proofs.YtckbmniiecbalaaGreatDoorW.PrintLast Go.Proofs.YtckbmniiecbalaaGreatDoorW.PrintMore
attribute [local go_sem] max2_int min2_int max_two min_two max_three min_three max_four min_four   -- for this text's walks alone
set_option linter.unusedVariables false
set_option linter.unusedSimpArgs false

attribute [local go_sem high] eqA23
/-! ### environlaw03_TextsBack: function 6 -/
mutual
def environlaw03_TextsBack.j0 : Nat → Int → Int → Bool → Int → Int → Option (Bool)
 | 0, _, _, _, _, _ => none
 | k + 1, x0, x1, x49, x703000, x703001 => if x49 = true then (some false) else ((texts_Word.f k x0 x1).bind fun bt709 => (if bt709.2 = 0 then (if bt709.1.size + 1 ≤ 9223372036854775807 then ((texts_ReadWord.f k x0 (bt709.1 ++ (⟨#[84]⟩ : ByteArray))).bind fun bt711 => (if bt711.1 = x1 then (if bt711.2.1 = (bt709.1.size : Int) then (if bt711.2.2 = 0 then (environlaw03_TextsBack.j1 k x0 x703000 x703001) else (some false)) else (some false)) else (some false))) else (none)) else (environlaw03_TextsBack.j1 k x0 x703000 x703001)))
def environlaw03_TextsBack.j1 : Nat → Int → Int → Int → Option (Bool)
 | 0, _, _, _ => none
 | k + 1, x0, x703000, x703001 => (environref02_Valid.f k x0 x703000 x703001).bind fun t714 => (if t714 = true then ((environref02_Digits.f x0).bind fun bt715 => ((texts_Denote.f x703000 x703001).bind fun t717 => ((texts_Float.f k x703000 x703001 0 (wrap64 (bt715.1 - 1)) 0).bind fun t718 => ((some (([t717, t718] : List ByteArray) : List ByteArray)).bind fun y719 => (if x703001 ≥ (-500) then ((texts_Fixed.f k x703000 x703001 0 (mx 0 (wrap64 (-x703001)))).bind fun t722 => (if y719.length < 8796093022208 then (environlaw03_TextsBack.j2 k x0 (y719 ++ [t722]) x703000 x703001) else (none))) else (environlaw03_TextsBack.j2 k x0 y719 x703000 x703001)))))) else (some true))
def environlaw03_TextsBack.j2 : Nat → Int → List ByteArray → Int → Int → Option (Bool)
 | 0, _, _, _, _ => none
 | k + 1, x0, x17, x703000, x703001 => environlaw03_TextsBack.l0 k x0 x17 (x17.length : Int) 0 x703000 x703001
def environlaw03_TextsBack.l0 : Nat → Int → List ByteArray → Int → Int → Int → Int → Option (Bool)
 | 0, _, _, _, _, _, _ => none
 | k + 1, x0, x107, x108, x109, x703000, x703001 => if x109 < x108 then (if 0 ≤ x109 then (if x109 < (x107.length : Int) then (if (rdOf ByteArray.empty x107 x109).size + 1 ≤ 9223372036854775807 then ((texts_ReadReal.f k x0 ((rdOf ByteArray.empty x107 x109) ++ (⟨#[32]⟩ : ByteArray))).bind fun bt727 => (if (!(bt727.1 == x703000) || (!(bt727.2.1 == x703001))) = true then (some false) else (if bt727.2.2.1 = ((rdOf ByteArray.empty x107 x109).size : Int) then (if bt727.2.2.2 = 0 then (environlaw03_TextsBack.l0 k x0 x107 x108 (wrap64 (x109 + 1)) x703000 x703001) else (some false)) else (some false)))) else (none)) else (none)) else (none)) else (if x703000 < 0 then (some true) else ((texts_Denote.f x703000 x703001).bind fun t732 => ((texts_Real.f k x0 t732).bind fun bt733 => (if (bt733.1 == x703000 && (bt733.2.1 == x703001)) = true then (some (bt733.2.2 == 0)) else (some false)))))
end
def environlaw03_TextsBack.f (k : Nat) (a0 : Int) (a1 : Int) (a2_0 : Int) (a2_1 : Int) : Option (Bool) := (environlaw03_awake.f k).bind fun t703 => (if t703 = true then ((texts_Whole.f a1 0).bind fun t704 => (if t704.size + 1 ≤ 9223372036854775807 then ((texts_ReadInt.f k a0 (t704 ++ (⟨#[59]⟩ : ByteArray))).bind fun bt705 => (if bt705.2.2 = 0 then (if bt705.1 = a1 then ((texts_Whole.f a1 0).bind fun t708 => (environlaw03_TextsBack.j0 k a0 a1 (bt705.2.1 != (t708.size : Int)) a2_0 a2_1)) else (environlaw03_TextsBack.j0 k a0 a1 true a2_0 a2_1)) else (environlaw03_TextsBack.j0 k a0 a1 false a2_0 a2_1))) else (none))) else (some false))
theorem environlaw03_TextsBack.mono_l : ∀ k, (∀ y0 y1 y2 y3 y4, LeO (environlaw03_TextsBack.j0 k y0 y1 y2 y3 y4) (environlaw03_TextsBack.j0 (k + 1) y0 y1 y2 y3 y4)) ∧ (∀ y0 y1 y2, LeO (environlaw03_TextsBack.j1 k y0 y1 y2) (environlaw03_TextsBack.j1 (k + 1) y0 y1 y2)) ∧ (∀ y0 y1 y2 y3, LeO (environlaw03_TextsBack.j2 k y0 y1 y2 y3) (environlaw03_TextsBack.j2 (k + 1) y0 y1 y2 y3)) ∧ (∀ y0 y1 y2 y3 y4 y5, LeO (environlaw03_TextsBack.l0 k y0 y1 y2 y3 y4 y5) (environlaw03_TextsBack.l0 (k + 1) y0 y1 y2 y3 y4 y5))
 | 0 => ⟨fun _ _ _ _ _ r h => by simp [environlaw03_TextsBack.j0] at h, fun _ _ _ r h => by simp [environlaw03_TextsBack.j1] at h, fun _ _ _ _ r h => by simp [environlaw03_TextsBack.j2] at h, fun _ _ _ _ _ _ r h => by simp [environlaw03_TextsBack.l0] at h⟩
 | k + 1 => by
  obtain ⟨ih0, ih1, ih2, ih3⟩ := environlaw03_TextsBack.mono_l k
  refine ⟨?_, ?_, ?_, ?_⟩
  ·intro y0 y1 y2 y3 y4
   unfold environlaw03_TextsBack.j0
   repeat' first
   | (with_reducible exact ih0 _ _ _ _ _)
   | (with_reducible exact ih1 _ _ _)
   | (with_reducible exact ih2 _ _ _ _)
   | (with_reducible exact ih3 _ _ _ _ _ _)
   | (with_reducible exact environlaw03_awake.mono _)
   | (with_reducible exact environref02_Valid.mono _ _ _ _)
   | (with_reducible exact texts_Fixed.mono _ _ _ _ _)
   | (with_reducible exact texts_Float.mono _ _ _ _ _ _)
   | (with_reducible exact texts_ReadInt.mono _ _ _)
   | (with_reducible exact texts_ReadReal.mono _ _ _)
   | (with_reducible exact texts_ReadWord.mono _ _ _)
   | (with_reducible exact texts_Real.mono _ _ _)
   | (with_reducible exact texts_Word.mono _ _ _)
   | (with_reducible exact LeO.refl _)
   | (with_reducible exact LeO.none _)
   | (with_reducible refine LeO.ite ?_ ?_)
   | (with_reducible refine LeO.bind ?_ (fun _ => ?_))
   | exact ih0 _ _ _ _ _
   | exact ih1 _ _ _
   | exact ih2 _ _ _ _
   | exact ih3 _ _ _ _ _ _
   | exact environlaw03_awake.mono _
   | exact environref02_Valid.mono _ _ _ _
   | exact texts_Fixed.mono _ _ _ _ _
   | exact texts_Float.mono _ _ _ _ _ _
   | exact texts_ReadInt.mono _ _ _
   | exact texts_ReadReal.mono _ _ _
   | exact texts_ReadWord.mono _ _ _
   | exact texts_Real.mono _ _ _
   | exact texts_Word.mono _ _ _
   | exact LeO.none _
   | refine LeO.ite ?_ ?_
   | refine LeO.bind ?_ (fun _ => ?_)
  ·intro y0 y1 y2
   unfold environlaw03_TextsBack.j1
   repeat' first
   | (with_reducible exact ih0 _ _ _ _ _)
   | (with_reducible exact ih1 _ _ _)
   | (with_reducible exact ih2 _ _ _ _)
   | (with_reducible exact ih3 _ _ _ _ _ _)
   | (with_reducible exact environlaw03_awake.mono _)
   | (with_reducible exact environref02_Valid.mono _ _ _ _)
   | (with_reducible exact texts_Fixed.mono _ _ _ _ _)
   | (with_reducible exact texts_Float.mono _ _ _ _ _ _)
   | (with_reducible exact texts_ReadInt.mono _ _ _)
   | (with_reducible exact texts_ReadReal.mono _ _ _)
   | (with_reducible exact texts_ReadWord.mono _ _ _)
   | (with_reducible exact texts_Real.mono _ _ _)
   | (with_reducible exact texts_Word.mono _ _ _)
   | (with_reducible exact LeO.refl _)
   | (with_reducible exact LeO.none _)
   | (with_reducible refine LeO.ite ?_ ?_)
   | (with_reducible refine LeO.bind ?_ (fun _ => ?_))
   | exact ih0 _ _ _ _ _
   | exact ih1 _ _ _
   | exact ih2 _ _ _ _
   | exact ih3 _ _ _ _ _ _
   | exact environlaw03_awake.mono _
   | exact environref02_Valid.mono _ _ _ _
   | exact texts_Fixed.mono _ _ _ _ _
   | exact texts_Float.mono _ _ _ _ _ _
   | exact texts_ReadInt.mono _ _ _
   | exact texts_ReadReal.mono _ _ _
   | exact texts_ReadWord.mono _ _ _
   | exact texts_Real.mono _ _ _
   | exact texts_Word.mono _ _ _
   | exact LeO.none _
   | refine LeO.ite ?_ ?_
   | refine LeO.bind ?_ (fun _ => ?_)
  ·intro y0 y1 y2 y3
   unfold environlaw03_TextsBack.j2
   repeat' first
   | (with_reducible exact ih0 _ _ _ _ _)
   | (with_reducible exact ih1 _ _ _)
   | (with_reducible exact ih2 _ _ _ _)
   | (with_reducible exact ih3 _ _ _ _ _ _)
   | (with_reducible exact environlaw03_awake.mono _)
   | (with_reducible exact environref02_Valid.mono _ _ _ _)
   | (with_reducible exact texts_Fixed.mono _ _ _ _ _)
   | (with_reducible exact texts_Float.mono _ _ _ _ _ _)
   | (with_reducible exact texts_ReadInt.mono _ _ _)
   | (with_reducible exact texts_ReadReal.mono _ _ _)
   | (with_reducible exact texts_ReadWord.mono _ _ _)
   | (with_reducible exact texts_Real.mono _ _ _)
   | (with_reducible exact texts_Word.mono _ _ _)
   | (with_reducible exact LeO.refl _)
   | (with_reducible exact LeO.none _)
   | (with_reducible refine LeO.ite ?_ ?_)
   | (with_reducible refine LeO.bind ?_ (fun _ => ?_))
   | exact ih0 _ _ _ _ _
   | exact ih1 _ _ _
   | exact ih2 _ _ _ _
   | exact ih3 _ _ _ _ _ _
   | exact environlaw03_awake.mono _
   | exact environref02_Valid.mono _ _ _ _
   | exact texts_Fixed.mono _ _ _ _ _
   | exact texts_Float.mono _ _ _ _ _ _
   | exact texts_ReadInt.mono _ _ _
   | exact texts_ReadReal.mono _ _ _
   | exact texts_ReadWord.mono _ _ _
   | exact texts_Real.mono _ _ _
   | exact texts_Word.mono _ _ _
   | exact LeO.none _
   | refine LeO.ite ?_ ?_
   | refine LeO.bind ?_ (fun _ => ?_)
  ·intro y0 y1 y2 y3 y4 y5
   unfold environlaw03_TextsBack.l0
   repeat' first
   | (with_reducible exact ih0 _ _ _ _ _)
   | (with_reducible exact ih1 _ _ _)
   | (with_reducible exact ih2 _ _ _ _)
   | (with_reducible exact ih3 _ _ _ _ _ _)
   | (with_reducible exact environlaw03_awake.mono _)
   | (with_reducible exact environref02_Valid.mono _ _ _ _)
   | (with_reducible exact texts_Fixed.mono _ _ _ _ _)
   | (with_reducible exact texts_Float.mono _ _ _ _ _ _)
   | (with_reducible exact texts_ReadInt.mono _ _ _)
   | (with_reducible exact texts_ReadReal.mono _ _ _)
   | (with_reducible exact texts_ReadWord.mono _ _ _)
   | (with_reducible exact texts_Real.mono _ _ _)
   | (with_reducible exact texts_Word.mono _ _ _)
   | (with_reducible exact LeO.refl _)
   | (with_reducible exact LeO.none _)
   | (with_reducible refine LeO.ite ?_ ?_)
   | (with_reducible refine LeO.bind ?_ (fun _ => ?_))
   | exact ih0 _ _ _ _ _
   | exact ih1 _ _ _
   | exact ih2 _ _ _ _
   | exact ih3 _ _ _ _ _ _
   | exact environlaw03_awake.mono _
   | exact environref02_Valid.mono _ _ _ _
   | exact texts_Fixed.mono _ _ _ _ _
   | exact texts_Float.mono _ _ _ _ _ _
   | exact texts_ReadInt.mono _ _ _
   | exact texts_ReadReal.mono _ _ _
   | exact texts_ReadWord.mono _ _ _
   | exact texts_Real.mono _ _ _
   | exact texts_Word.mono _ _ _
   | exact LeO.none _
   | refine LeO.ite ?_ ?_
   | refine LeO.bind ?_ (fun _ => ?_)
theorem environlaw03_TextsBack.mono : ∀ a0 a1 a2 a3 k, LeO (environlaw03_TextsBack.f k a0 a1 a2 a3) (environlaw03_TextsBack.f (k + 1) a0 a1 a2 a3) := by
 intro a0 a1 a2 a3 k
 obtain ⟨ih0, ih1, ih2, ih3⟩ := environlaw03_TextsBack.mono_l k
 unfold environlaw03_TextsBack.f
 repeat' first
   | (with_reducible exact ih0 _ _ _ _ _)
   | (with_reducible exact ih1 _ _ _)
   | (with_reducible exact ih2 _ _ _ _)
   | (with_reducible exact ih3 _ _ _ _ _ _)
   | (with_reducible exact environlaw03_awake.mono _)
   | (with_reducible exact environref02_Valid.mono _ _ _ _)
   | (with_reducible exact texts_Fixed.mono _ _ _ _ _)
   | (with_reducible exact texts_Float.mono _ _ _ _ _ _)
   | (with_reducible exact texts_ReadInt.mono _ _ _)
   | (with_reducible exact texts_ReadReal.mono _ _ _)
   | (with_reducible exact texts_ReadWord.mono _ _ _)
   | (with_reducible exact texts_Real.mono _ _ _)
   | (with_reducible exact texts_Word.mono _ _ _)
   | (with_reducible exact LeO.refl _)
   | (with_reducible exact LeO.none _)
   | (with_reducible refine LeO.ite ?_ ?_)
   | (with_reducible refine LeO.bind ?_ (fun _ => ?_))
   | exact ih0 _ _ _ _ _
   | exact ih1 _ _ _
   | exact ih2 _ _ _ _
   | exact ih3 _ _ _ _ _ _
   | exact environlaw03_awake.mono _
   | exact environref02_Valid.mono _ _ _ _
   | exact texts_Fixed.mono _ _ _ _ _
   | exact texts_Float.mono _ _ _ _ _ _
   | exact texts_ReadInt.mono _ _ _
   | exact texts_ReadReal.mono _ _ _
   | exact texts_ReadWord.mono _ _ _
   | exact texts_Real.mono _ _ _
   | exact texts_Word.mono _ _ _
   | exact LeO.none _
   | refine LeO.ite ?_ ?_
   | refine LeO.bind ?_ (fun _ => ?_)
def environlaw03_TextsBack.T14 : Bool × List (List Nat × List Nat) := (true, [([], []), ([0], [0]), ([], []), ([], []), ([3], [3]), ([2, 4, 1], [2, 4]), ([1, 5], [1, 5]), ([6, 5, 0, 1, 2, 3, 4, 5, 6], [6])])
def environlaw03_TextsBack.B14 : List Nat := [0, 1, 0, 0, 8, 31, 63, 127]
theorem environlaw03_TextsBack.tab14 : rtab .any (opsOf Tryz.f6 14) = environlaw03_TextsBack.T14 := by kernel_rfl
theorem environlaw03_TextsBack.bits14 : waitsOk environlaw03_TextsBack.T14.2 environlaw03_TextsBack.B14 = true := by kernel_rfl
set_option maxHeartbeats 8000000 in
set_option maxRecDepth 100000 in
theorem environlaw03_TextsBack.calls (k : Nat) (a0 : Int) (a1 : Int) (a2_0 : Int) (a2_1 : Int) (r : Bool) (w : World) (hE : Env w) (h : environlaw03_TextsBack.f k a0 a1 a2_0 a2_1 = some r) :
  Calls Tryz.prog 6 #[.int .i64 a0, .int .i64 a1, .agg #[.int .i64 a2_0, .int .i64 a2_1]] w fun e w' => e = .returned (.bool r) ∧ Below w.heap.size w w' := by
 have HE_ := Aside0.mk hE
 clear hE
 have hu23 := Tryz.underlying23
 have HB := Aside0.mk (Below.refl w.heap.size w)
 have H : ((environlaw03_awake.f k).bind fun t703 => (if t703 = true then ((texts_Whole.f a1 0).bind fun t704 => (if t704.size + 1 ≤ 9223372036854775807 then ((texts_ReadInt.f k a0 (t704 ++ (⟨#[59]⟩ : ByteArray))).bind fun bt705 => (if bt705.2.2 = 0 then (if bt705.1 = a1 then ((texts_Whole.f a1 0).bind fun t708 => (environlaw03_TextsBack.j0 k a0 a1 (bt705.2.1 != (t708.size : Int)) a2_0 a2_1)) else (environlaw03_TextsBack.j0 k a0 a1 true a2_0 a2_1)) else (environlaw03_TextsBack.j0 k a0 a1 false a2_0 a2_1))) else (none))) else (some false))) = some r := h
 clear h
 replace H := Option.bind_eq_some_iff.mp H
 obtain ⟨t703, A40, H⟩ := H
 replace H : (if t703 = true then ((texts_Whole.f a1 0).bind fun t704 => (if t704.size + 1 ≤ 9223372036854775807 then ((texts_ReadInt.f k a0 (t704 ++ (⟨#[59]⟩ : ByteArray))).bind fun bt705 => (if bt705.2.2 = 0 then (if bt705.1 = a1 then ((texts_Whole.f a1 0).bind fun t708 => (environlaw03_TextsBack.j0 k a0 a1 (bt705.2.1 != (t708.size : Int)) a2_0 a2_1)) else (environlaw03_TextsBack.j0 k a0 a1 true a2_0 a2_1)) else (environlaw03_TextsBack.j0 k a0 a1 false a2_0 a2_1))) else (none))) else (some false)) = some r := H
 have A4 := Aside0.mk A40
 clear A40
 by_cases c5 : t703 = true
 ·subst c5
  have H1 : ((texts_Whole.f a1 0).bind fun t704 => (if t704.size + 1 ≤ 9223372036854775807 then ((texts_ReadInt.f k a0 (t704 ++ (⟨#[59]⟩ : ByteArray))).bind fun bt705 => (if bt705.2.2 = 0 then (if bt705.1 = a1 then ((texts_Whole.f a1 0).bind fun t708 => (environlaw03_TextsBack.j0 k a0 a1 (bt705.2.1 != (t708.size : Int)) a2_0 a2_1)) else (environlaw03_TextsBack.j0 k a0 a1 true a2_0 a2_1)) else (environlaw03_TextsBack.j0 k a0 a1 false a2_0 a2_1))) else (none))) = some r := by rw [if_pos rfl] at H; exact H
  clear H
  have H := H1
  clear H1
  replace H := Option.bind_eq_some_iff.mp H
  obtain ⟨t704, A60, H⟩ := H
  replace H : (if t704.size + 1 ≤ 9223372036854775807 then ((texts_ReadInt.f k a0 (t704 ++ (⟨#[59]⟩ : ByteArray))).bind fun bt705 => (if bt705.2.2 = 0 then (if bt705.1 = a1 then ((texts_Whole.f a1 0).bind fun t708 => (environlaw03_TextsBack.j0 k a0 a1 (bt705.2.1 != (t708.size : Int)) a2_0 a2_1)) else (environlaw03_TextsBack.j0 k a0 a1 true a2_0 a2_1)) else (environlaw03_TextsBack.j0 k a0 a1 false a2_0 a2_1))) else (none)) = some r := H
  have A6 := Aside0.mk A60
  clear A60
  by_cases c7 : t704.size + 1 ≤ 9223372036854775807
  ·rw [if_pos c7] at H
   have c7b0 := eq_true c7
   have c7b1 : decide (t704.size + 1 ≤ 9223372036854775807) = true := decide_eq_true c7
   try have c7b2 : (9223372036854775807 < t704.size + 1) = False := eq_false (Nat.not_lt.2 c7)
   replace H := Option.bind_eq_some_iff.mp H
   obtain ⟨⟨t705, t706, t707⟩, A80, H⟩ := H
   replace H : (if t707 = 0 then (if t705 = a1 then ((texts_Whole.f a1 0).bind fun t708 => (environlaw03_TextsBack.j0 k a0 a1 (t706 != (t708.size : Int)) a2_0 a2_1)) else (environlaw03_TextsBack.j0 k a0 a1 true a2_0 a2_1)) else (environlaw03_TextsBack.j0 k a0 a1 false a2_0 a2_1)) = some r := H
   have A8 := Aside0.mk A80
   clear A80
   have HC9 := Aside0.mk H
   clear H
   go_enter Tryz.func6, Tryz.ntmps6
   go_upto_region 4 with (first | ((with_reducible refine gate_dst (N := 5) rfl ?_); (try (refine gate_guard (by rfl) ?_; dsimp only)); refine box_event ?hg (N := 5) ?hd (cs := #[.int .i64 a2_0, .int .i64 a2_1]) (t := 23) ?hr ?_; (case hd => rfl); (case hg => rfl); (case hr => first | (go_simp; done) | (go_simp; rfl)); intro gb702 hg w10 hbox hb; have BK702 := Aside0.mk (hbox); have GW702 := Aside0.mk (bs HB hg : w.heap.size ≤ gb702); replace HB := Aside0.mk (below_step (bw HB) hb); clear hb hbox hg) | ((with_reducible refine gate_callee (f := 7) rfl ?_); refine goesL_ (some 25) rfl rfl Tryz.func7 (by kernel_rfl) rfl #[] rfl (by (try simp only [List.map_toArray, List.map_cons, List.map_nil]); first | done | rfl | (simp only [List.length_drop, List.length_take]; rfl)) ?_; (with_reducible refine (environlaw03_awake.calls k  true _ (env_at HE_.out (bw HB)) A4.out).mono ?_); rintro e w11 ⟨rfl, hb⟩; refine ⟨_, rfl, ?_⟩; replace BK702 := Aside0.mk (bb BK702 hb); replace HB := Aside0.mk (below_step (bw HB) hb); (try clear hb); (try clear hb2); (try clear hk); (try clear hi)) | ((with_reducible refine gate_callee (f := 8) rfl ?_); refine goesL_ (some 30) rfl rfl Tryz.func8 (by kernel_rfl) rfl #[.int .i64 a1, .int .i64 0] rfl (by (try simp only [List.map_toArray, List.map_cons, List.map_nil]); first | done | rfl | (simp only [List.length_drop, List.length_take]; rfl)) ?_; (with_reducible refine (texts_Whole.calls a1 0 t704 _ (env_at HE_.out (bw HB)) A6.out).mono ?_); rintro e w12 ⟨rfl, hb⟩; refine ⟨_, rfl, ?_⟩; replace BK702 := Aside0.mk (bb BK702 hb); replace HB := Aside0.mk (below_step (bw HB) hb); (try clear hb); (try clear hb2); (try clear hk); (try clear hi)) | ((with_reducible refine gate_callee (f := 18) rfl ?_); refine goesL_ (some 32) rfl rfl Tryz.func18 (by kernel_rfl) rfl #[.int .i64 a0, .string (t704 ++ (⟨#[59]⟩ : ByteArray))] rfl (by (try simp only [List.map_toArray, List.map_cons, List.map_nil]); first | done | rfl | (simp only [List.length_drop, List.length_take]; rfl)) ?_; (with_reducible refine (texts_ReadInt.calls k a0 (t704 ++ (⟨#[59]⟩ : ByteArray)) t705 t706 t707 _ A8.out).mono ?_); rintro e w13 ⟨rfl, hb⟩; refine ⟨_, rfl, ?_⟩; replace BK702 := Aside0.mk (bb BK702 hb); replace HB := Aside0.mk (below_step (bw HB) hb); (try clear hb); (try clear hb2); (try clear hk); (try clear hi)))
   (try simp only [sx])
   go_cut [49] (fun v49 wc => ∃ (kq : Nat) (x49_8 : Bool), v49 = .bool x49_8 ∧ Aside0 (environlaw03_TextsBack.j0 kq a0 a1 x49_8 a2_0 a2_1 = some r) ∧ Aside0 (kq ≤ k) ∧ Aside0 (wc.heap[gb702]? = some (.cells #[.int .i64 a2_0, .int .i64 a2_1] 23 (0, 0))) ∧ Aside0 (Below w.heap.size w wc))
   case first =>
    have H := HC9.out
    clear HC9
    by_cases c14 : t707 = 0
    ·rw [if_pos c14] at H
     have c14b0 : (t707 == 0) = true := beq_iff_eq.mpr c14
     have c14b1 : (t707 != 0) = false := bne_eq_false_iff_eq.mpr c14
     clear c14
     (first | rw [c14b0] | (simp only [i64_w, i32_w]; rw [c14b0]) | skip)
     by_cases c15 : t705 = a1
     ·rw [if_pos c15] at H
      have c15b0 : (t705 == a1) = true := beq_iff_eq.mpr c15
      have c15b1 : (t705 != a1) = false := bne_eq_false_iff_eq.mpr c15
      clear c15
      replace H := Option.bind_eq_some_iff.mp H
      obtain ⟨t708, A160, H⟩ := H
      replace H : (environlaw03_TextsBack.j0 k a0 a1 (t706 != (t708.size : Int)) a2_0 a2_1) = some r := H
      have A16 := Aside0.mk A160
      clear A160
      have H' := Aside0.mk H
      clear H
      go_wp2_with (first | (go_at_call 8; (with_reducible refine (texts_Whole.calls a1 0 t708 _ (env_at HE_.out (bw HB)) A16.out).mono ?_); rintro e w17 ⟨rfl, hb⟩; replace BK702 := Aside0.mk (bb BK702 hb); replace HB := Aside0.mk (below_step (bw HB) hb); (try clear hb); (try clear hb2); (try clear hk); (try clear hi)))
      go_meet
      case rel => exact ⟨_, ((t706 != (t708.size : Int))), (by first | rfl | (simp; done) | (simp [*]; done)), H', ⟨by first | omega | exact Nat.le_refl _⟩, ⟨by (with_reducible repeat (first | refine blk_drewN ?_ _ | refine blk_drew ?_ | refine blk_alloc ?_ _)); exact BK702.out⟩, ⟨bw HB⟩⟩
     ·rw [if_neg c15] at H
      have c15b0 : (t705 == a1) = false := beq_eq_false_iff_ne.mpr c15
      have c15b1 : (t705 != a1) = true := bne_iff_ne.mpr c15
      have H' := Aside0.mk H
      clear H
      go_wp2
      go_meet
      case rel => exact ⟨_, (true), (by first | rfl | (simp; done) | (simp [*]; done)), H', ⟨by first | omega | exact Nat.le_refl _⟩, ⟨by (with_reducible repeat (first | refine blk_drewN ?_ _ | refine blk_drew ?_ | refine blk_alloc ?_ _)); exact BK702.out⟩, ⟨bw HB⟩⟩
    ·rw [if_neg c14] at H
     have c14b0 : (t707 == 0) = false := beq_eq_false_iff_ne.mpr c14
     have c14b1 : (t707 != 0) = true := bne_iff_ne.mpr c14
     (first | rw [c14b0] | (simp only [i64_w, i32_w]; rw [c14b0]) | skip)
     have H' := Aside0.mk H
     clear H
     go_wp2
     go_meet
     case rel => exact ⟨_, (false), (by first | rfl | (simp; done) | (simp [*]; done)), H', ⟨by first | omega | exact Nat.le_refl _⟩, ⟨by (with_reducible repeat (first | refine blk_drewN ?_ _ | refine blk_drew ?_ | refine blk_alloc ?_ _)); exact BK702.out⟩, ⟨bw HB⟩⟩
   case rest =>
    clear HC9
    try clear c1
    try clear p2
    try clear c5
    try clear c6
    try clear c7
    try clear c7b0
    try clear c7b1
    try clear c7b2
    try clear c8
    try clear c14
    try clear c14b0
    try clear c14b1
    try clear c15
    try clear c15b0
    try clear c15b1
    obtain ⟨kq, x49_8, rfl, HA, HJ8, BK702, HB⟩ := hcut
    cases kq with
    | zero => exact absurd HA.out (by simp [environlaw03_TextsBack.j0])
    | succ kj8 =>
     have H := HA.out
     clear HA
     simp only [environlaw03_TextsBack.j0] at H
     by_cases c18 : x49_8 = true
     ·subst c18
      have H1 : (some false) = some r := by rw [if_pos rfl] at H; exact H
      clear H
      have H := H1
      clear H1
      obtain rfl := Option.some.inj H
      go_wp2
      go_ret
      exact ⟨by first | rfl | (simp [errW_none, errW_some] <;> rfl) | (simp [*, errW_none, errW_some] <;> rfl), bw HB⟩
     ·replace c18 := Bool.eq_false_iff.mpr c18
      subst c18
      have H1 : ((texts_Word.f kj8 a0 a1).bind fun bt709 => (if bt709.2 = 0 then (if bt709.1.size + 1 ≤ 9223372036854775807 then ((texts_ReadWord.f kj8 a0 (bt709.1 ++ (⟨#[84]⟩ : ByteArray))).bind fun bt711 => (if bt711.1 = a1 then (if bt711.2.1 = (bt709.1.size : Int) then (if bt711.2.2 = 0 then (environlaw03_TextsBack.j1 kj8 a0 a2_0 a2_1) else (some false)) else (some false)) else (some false))) else (none)) else (environlaw03_TextsBack.j1 kj8 a0 a2_0 a2_1))) = some r := by rw [if_neg (show ¬ (false = true) by decide)] at H; exact H
      clear H
      have H := H1
      clear H1
      replace H := Option.bind_eq_some_iff.mp H
      obtain ⟨⟨t709, t710⟩, A190, H⟩ := H
      replace H : (if t710 = 0 then (if t709.size + 1 ≤ 9223372036854775807 then ((texts_ReadWord.f kj8 a0 (t709 ++ (⟨#[84]⟩ : ByteArray))).bind fun bt711 => (if bt711.1 = a1 then (if bt711.2.1 = (t709.size : Int) then (if bt711.2.2 = 0 then (environlaw03_TextsBack.j1 kj8 a0 a2_0 a2_1) else (some false)) else (some false)) else (some false))) else (none)) else (environlaw03_TextsBack.j1 kj8 a0 a2_0 a2_1)) = some r := H
      have A19 := Aside0.mk A190
      clear A190
      have HC20 := Aside0.mk H
      clear H
      go_upto_if 57 with (first | ((with_reducible refine gate_callee (f := 16) rfl ?_); refine goesL_ (some 53) rfl rfl Tryz.func16 (by kernel_rfl) rfl #[.int .i64 a0, .int .i64 a1] rfl (by (try simp only [List.map_toArray, List.map_cons, List.map_nil]); first | done | rfl | (simp only [List.length_drop, List.length_take]; rfl)) ?_; (with_reducible refine (texts_Word.calls kj8 a0 a1 t709 t710 _ A19.out).mono ?_); rintro e w21 ⟨rfl, hb⟩; refine ⟨_, rfl, ?_⟩; replace BK702 := Aside0.mk (bb BK702 hb); replace HB := Aside0.mk (below_step (bw HB) hb); (try clear hb); (try clear hb2); (try clear hk); (try clear hi)))
      (try simp only [sx])
      go_cut [] (fun wc => ∃ (kq : Nat), Aside0 (environlaw03_TextsBack.j1 kq a0 a2_0 a2_1 = some r) ∧ Aside0 (kq ≤ kj8) ∧ Aside0 (wc.heap[gb702]? = some (.cells #[.int .i64 a2_0, .int .i64 a2_1] 23 (0, 0))) ∧ Aside0 (Below w.heap.size w wc))
      case first =>
       have H := HC20.out
       clear HC20
       by_cases c22 : t710 = 0
       ·rw [if_pos c22] at H
        have c22b0 : (t710 == 0) = true := beq_iff_eq.mpr c22
        have c22b1 : (t710 != 0) = false := bne_eq_false_iff_eq.mpr c22
        clear c22
        (first | rw [c22b0] | (simp only [i64_w, i32_w]; rw [c22b0]) | skip)
        by_cases c23 : t709.size + 1 ≤ 9223372036854775807
        ·rw [if_pos c23] at H
         have c23b0 := eq_true c23
         have c23b1 : decide (t709.size + 1 ≤ 9223372036854775807) = true := decide_eq_true c23
         try have c23b2 : (9223372036854775807 < t709.size + 1) = False := eq_false (Nat.not_lt.2 c23)
         replace H := Option.bind_eq_some_iff.mp H
         obtain ⟨⟨t711, t712, t713⟩, A240, H⟩ := H
         replace H : (if t711 = a1 then (if t712 = (t709.size : Int) then (if t713 = 0 then (environlaw03_TextsBack.j1 kj8 a0 a2_0 a2_1) else (some false)) else (some false)) else (some false)) = some r := H
         have A24 := Aside0.mk A240
         clear A240
         by_cases c25 : t711 = a1
         ·rw [if_pos c25] at H
          have c25b0 : (t711 == a1) = true := beq_iff_eq.mpr c25
          have c25b1 : (t711 != a1) = false := bne_eq_false_iff_eq.mpr c25
          clear c25
          by_cases c26 : t712 = (t709.size : Int)
          ·rw [if_pos c26] at H
           have c26b0 : (t712 == (t709.size : Int)) = true := beq_iff_eq.mpr c26
           have c26b1 : (t712 != (t709.size : Int)) = false := bne_eq_false_iff_eq.mpr c26
           clear c26
           by_cases c27 : t713 = 0
           ·rw [if_pos c27] at H
            have c27b0 : (t713 == 0) = true := beq_iff_eq.mpr c27
            have c27b1 : (t713 != 0) = false := bne_eq_false_iff_eq.mpr c27
            clear c27
            have H' := Aside0.mk H
            clear H
            go_wp2_with (first | ((with_reducible refine gate_callee (f := 22) rfl ?_); refine goesL_ (some 62) rfl rfl Tryz.func22 (by kernel_rfl) rfl #[.int .i64 a0, .string (t709 ++ (⟨#[84]⟩ : ByteArray))] rfl (by (try simp only [List.map_toArray, List.map_cons, List.map_nil]); first | done | rfl | (simp only [List.length_drop, List.length_take]; rfl)) ?_; (with_reducible refine (texts_ReadWord.calls kj8 a0 (t709 ++ (⟨#[84]⟩ : ByteArray)) t711 t712 t713 _ A24.out).mono ?_); rintro e w28 ⟨rfl, hb⟩; refine ⟨_, rfl, ?_⟩; replace BK702 := Aside0.mk (bb BK702 hb); replace HB := Aside0.mk (below_step (bw HB) hb); (try clear hb); (try clear hb2); (try clear hk); (try clear hi)))
            go_meet
            case rel => exact ⟨_, H', ⟨by have := HJ8.out; first | omega | exact Nat.le_refl _⟩, ⟨by (with_reducible repeat (first | refine blk_drewN ?_ _ | refine blk_drew ?_ | refine blk_alloc ?_ _)); exact BK702.out⟩, ⟨bw HB⟩⟩
           ·rw [if_neg c27] at H
            have c27b0 : (t713 == 0) = false := beq_eq_false_iff_ne.mpr c27
            have c27b1 : (t713 != 0) = true := bne_iff_ne.mpr c27
            obtain rfl := Option.some.inj H
            go_wp2_with (first | ((with_reducible refine gate_callee (f := 22) rfl ?_); refine goesL_ (some 62) rfl rfl Tryz.func22 (by kernel_rfl) rfl #[.int .i64 a0, .string (t709 ++ (⟨#[84]⟩ : ByteArray))] rfl (by (try simp only [List.map_toArray, List.map_cons, List.map_nil]); first | done | rfl | (simp only [List.length_drop, List.length_take]; rfl)) ?_; (with_reducible refine (texts_ReadWord.calls kj8 a0 (t709 ++ (⟨#[84]⟩ : ByteArray)) t711 t712 t713 _ A24.out).mono ?_); rintro e w29 ⟨rfl, hb⟩; refine ⟨_, rfl, ?_⟩; replace BK702 := Aside0.mk (bb BK702 hb); replace HB := Aside0.mk (below_step (bw HB) hb); (try clear hb); (try clear hb2); (try clear hk); (try clear hi)))
            go_ret
            exact ⟨by first | rfl | (simp [errW_none, errW_some] <;> rfl) | (simp [*, errW_none, errW_some] <;> rfl), bw HB⟩
          ·rw [if_neg c26] at H
           have c26b0 : (t712 == (t709.size : Int)) = false := beq_eq_false_iff_ne.mpr c26
           have c26b1 : (t712 != (t709.size : Int)) = true := bne_iff_ne.mpr c26
           obtain rfl := Option.some.inj H
           go_wp2_with (first | ((with_reducible refine gate_callee (f := 22) rfl ?_); refine goesL_ (some 62) rfl rfl Tryz.func22 (by kernel_rfl) rfl #[.int .i64 a0, .string (t709 ++ (⟨#[84]⟩ : ByteArray))] rfl (by (try simp only [List.map_toArray, List.map_cons, List.map_nil]); first | done | rfl | (simp only [List.length_drop, List.length_take]; rfl)) ?_; (with_reducible refine (texts_ReadWord.calls kj8 a0 (t709 ++ (⟨#[84]⟩ : ByteArray)) t711 t712 t713 _ A24.out).mono ?_); rintro e w30 ⟨rfl, hb⟩; refine ⟨_, rfl, ?_⟩; replace BK702 := Aside0.mk (bb BK702 hb); replace HB := Aside0.mk (below_step (bw HB) hb); (try clear hb); (try clear hb2); (try clear hk); (try clear hi)))
           go_ret
           exact ⟨by first | rfl | (simp [errW_none, errW_some] <;> rfl) | (simp [*, errW_none, errW_some] <;> rfl), bw HB⟩
         ·rw [if_neg c25] at H
          have c25b0 : (t711 == a1) = false := beq_eq_false_iff_ne.mpr c25
          have c25b1 : (t711 != a1) = true := bne_iff_ne.mpr c25
          obtain rfl := Option.some.inj H
          go_wp2_with (first | ((with_reducible refine gate_callee (f := 22) rfl ?_); refine goesL_ (some 62) rfl rfl Tryz.func22 (by kernel_rfl) rfl #[.int .i64 a0, .string (t709 ++ (⟨#[84]⟩ : ByteArray))] rfl (by (try simp only [List.map_toArray, List.map_cons, List.map_nil]); first | done | rfl | (simp only [List.length_drop, List.length_take]; rfl)) ?_; (with_reducible refine (texts_ReadWord.calls kj8 a0 (t709 ++ (⟨#[84]⟩ : ByteArray)) t711 t712 t713 _ A24.out).mono ?_); rintro e w31 ⟨rfl, hb⟩; refine ⟨_, rfl, ?_⟩; replace BK702 := Aside0.mk (bb BK702 hb); replace HB := Aside0.mk (below_step (bw HB) hb); (try clear hb); (try clear hb2); (try clear hk); (try clear hi)))
          go_ret
          exact ⟨by first | rfl | (simp [errW_none, errW_some] <;> rfl) | (simp [*, errW_none, errW_some] <;> rfl), bw HB⟩
        ·rw [if_neg c23] at H
         exact absurd H (by simp)
       ·rw [if_neg c22] at H
        have c22b0 : (t710 == 0) = false := beq_eq_false_iff_ne.mpr c22
        have c22b1 : (t710 != 0) = true := bne_iff_ne.mpr c22
        (first | rw [c22b0] | (simp only [i64_w, i32_w]; rw [c22b0]) | skip)
        have H' := Aside0.mk H
        clear H
        go_wp2
        go_meet
        case rel => exact ⟨_, H', ⟨by have := HJ8.out; first | omega | exact Nat.le_refl _⟩, ⟨by (with_reducible repeat (first | refine blk_drewN ?_ _ | refine blk_drew ?_ | refine blk_alloc ?_ _)); exact BK702.out⟩, ⟨bw HB⟩⟩
      case rest =>
       clear HC20
       try clear c1
       try clear c2
       try clear p2
       try clear c5
       try clear c6
       try clear c7
       try clear c7b0
       try clear c7b1
       try clear c7b2
       try clear c8
       try clear c14
       try clear c14b0
       try clear c14b1
       try clear c15
       try clear c15b0
       try clear c15b1
       try clear c16
       try clear c18
       try clear c22
       try clear c22b0
       try clear c22b1
       try clear c23
       try clear c23b0
       try clear c23b1
       try clear c23b2
       try clear c25
       try clear c25b0
       try clear c25b1
       try clear c26
       try clear c26b0
       try clear c26b1
       try clear c27
       try clear c27b0
       try clear c27b1
       try clear p2
       obtain ⟨kq, HA, HJ19, BK702, HB⟩ := hcut
       cases kq with
       | zero => exact absurd HA.out (by simp [environlaw03_TextsBack.j1])
       | succ kj19 =>
        have H := HA.out
        clear HA
        simp only [environlaw03_TextsBack.j1] at H
        replace H := Option.bind_eq_some_iff.mp H
        obtain ⟨t714, A320, H⟩ := H
        replace H : (if t714 = true then ((environref02_Digits.f a0).bind fun bt715 => ((texts_Denote.f a2_0 a2_1).bind fun t717 => ((texts_Float.f kj19 a2_0 a2_1 0 (wrap64 (bt715.1 - 1)) 0).bind fun t718 => ((some (([t717, t718] : List ByteArray) : List ByteArray)).bind fun y719 => (if a2_1 ≥ (-500) then ((texts_Fixed.f kj19 a2_0 a2_1 0 (mx 0 (wrap64 (-a2_1)))).bind fun t722 => (if y719.length < 8796093022208 then (environlaw03_TextsBack.j2 kj19 a0 (y719 ++ [t722]) a2_0 a2_1) else (none))) else (environlaw03_TextsBack.j2 kj19 a0 y719 a2_0 a2_1)))))) else (some true)) = some r := H
        have A32 := Aside0.mk A320
        clear A320
        by_cases c33 : t714 = true
        ·subst c33
         have H1 : ((environref02_Digits.f a0).bind fun bt715 => ((texts_Denote.f a2_0 a2_1).bind fun t717 => ((texts_Float.f kj19 a2_0 a2_1 0 (wrap64 (bt715.1 - 1)) 0).bind fun t718 => ((some (([t717, t718] : List ByteArray) : List ByteArray)).bind fun y719 => (if a2_1 ≥ (-500) then ((texts_Fixed.f kj19 a2_0 a2_1 0 (mx 0 (wrap64 (-a2_1)))).bind fun t722 => (if y719.length < 8796093022208 then (environlaw03_TextsBack.j2 kj19 a0 (y719 ++ [t722]) a2_0 a2_1) else (none))) else (environlaw03_TextsBack.j2 kj19 a0 y719 a2_0 a2_1)))))) = some r := by rw [if_pos rfl] at H; exact H
         clear H
         have H := H1
         clear H1
         replace H := Option.bind_eq_some_iff.mp H
         obtain ⟨⟨t715, t716⟩, A340, H⟩ := H
         replace H : ((texts_Denote.f a2_0 a2_1).bind fun t717 => ((texts_Float.f kj19 a2_0 a2_1 0 (wrap64 (t715 - 1)) 0).bind fun t718 => ((some (([t717, t718] : List ByteArray) : List ByteArray)).bind fun y719 => (if a2_1 ≥ (-500) then ((texts_Fixed.f kj19 a2_0 a2_1 0 (mx 0 (wrap64 (-a2_1)))).bind fun t722 => (if y719.length < 8796093022208 then (environlaw03_TextsBack.j2 kj19 a0 (y719 ++ [t722]) a2_0 a2_1) else (none))) else (environlaw03_TextsBack.j2 kj19 a0 y719 a2_0 a2_1))))) = some r := H
         have A34 := Aside0.mk A340
         clear A340
         replace H := Option.bind_eq_some_iff.mp H
         obtain ⟨t717, A350, H⟩ := H
         replace H : ((texts_Float.f kj19 a2_0 a2_1 0 (wrap64 (t715 - 1)) 0).bind fun t718 => ((some (([t717, t718] : List ByteArray) : List ByteArray)).bind fun y719 => (if a2_1 ≥ (-500) then ((texts_Fixed.f kj19 a2_0 a2_1 0 (mx 0 (wrap64 (-a2_1)))).bind fun t722 => (if y719.length < 8796093022208 then (environlaw03_TextsBack.j2 kj19 a0 (y719 ++ [t722]) a2_0 a2_1) else (none))) else (environlaw03_TextsBack.j2 kj19 a0 y719 a2_0 a2_1)))) = some r := H
         have A35 := Aside0.mk A350
         clear A350
         replace H := Option.bind_eq_some_iff.mp H
         obtain ⟨t718, A360, H⟩ := H
         replace H : ((some (([t717, t718] : List ByteArray) : List ByteArray)).bind fun y719 => (if a2_1 ≥ (-500) then ((texts_Fixed.f kj19 a2_0 a2_1 0 (mx 0 (wrap64 (-a2_1)))).bind fun t722 => (if y719.length < 8796093022208 then (environlaw03_TextsBack.j2 kj19 a0 (y719 ++ [t722]) a2_0 a2_1) else (none))) else (environlaw03_TextsBack.j2 kj19 a0 y719 a2_0 a2_1))) = some r := H
         have A36 := Aside0.mk A360
         clear A360
         obtain ⟨y719, hy719⟩ : ∃ y_ : List ByteArray, y_ = (([t717, t718] : List ByteArray)) := ⟨_, rfl⟩
         replace H : (if a2_1 ≥ (-500) then ((texts_Fixed.f kj19 a2_0 a2_1 0 (mx 0 (wrap64 (-a2_1)))).bind fun t722 => (if y719.length < 8796093022208 then (environlaw03_TextsBack.j2 kj19 a0 (y719 ++ [t722]) a2_0 a2_1) else (none))) else (environlaw03_TextsBack.j2 kj19 a0 y719 a2_0 a2_1)) = some r := by first | (rw [hy719]; with_reducible exact H) | (have H2_ := (Option.bind_some _ _).symm.trans H; rw [hy719]; with_reducible exact H2_) | (have H2_ := (Option.bind_some _ _).symm.trans H; with_reducible exact H2_) | with_reducible exact H | (rw [hy719]; exact H) | exact H
         have Ny719 := Aside0.mk hy719
         clear hy719
         have HC37 := Aside0.mk H
         clear H
         have hcz38_0 : wc.cell? ⟨gb702, 0, none⟩ = some (.int .i64 a2_0) := (blk_cell BK702.out 0).trans rfl
         have hcz38_1 : wc.cell? ⟨gb702, 1, none⟩ = some (.int .i64 a2_1) := (blk_cell BK702.out 1).trans rfl
         have hfz38_0 := blk_frozen BK702.out 0
         have hfz38_1 := blk_frozen BK702.out 1
         try go_wp2_with (first | ((with_reducible refine gate_callee (f := 24) rfl ?_); refine goesL_ (some 81) rfl rfl Tryz.func24 (by kernel_rfl) rfl #[.int .i64 a0, .agg #[.int .i64 a2_0, .int .i64 a2_1]] rfl (by (try simp only [List.map_toArray, List.map_cons, List.map_nil]); first | done | rfl | (simp only [List.length_drop, List.length_take]; rfl)) ?_; (with_reducible refine (environref02_Valid.calls kj19 a0 a2_0 a2_1 true _ A32.out).mono ?_); rintro e w39 ⟨rfl, hb⟩; refine ⟨_, rfl, ?_⟩; replace BK702 := Aside0.mk (bb BK702 hb); replace HB := Aside0.mk (below_step (bw HB) hb); (try clear hb); (try clear hb2); (try clear hk); (try clear hi)) | ((with_reducible refine gate_callee (f := 25) rfl ?_); refine goesL_ (some 85) rfl rfl Tryz.func25 (by kernel_rfl) rfl #[.int .i64 a0] rfl (by (try simp only [List.map_toArray, List.map_cons, List.map_nil]); first | done | rfl | (simp only [List.length_drop, List.length_take]; rfl)) ?_; (with_reducible refine (environref02_Digits.calls a0 t715 t716 _ A34.out).mono ?_); rintro e w' ⟨rfl, ⟨nd, rfl⟩⟩; refine ⟨_, rfl, ?_⟩))
         (try (rw [drewN_self w39]; generalize hq_ : World.drewN w39 _ = w39; have n0_ : Aside0 (w39.heap[gb702]? = some (.cells #[.int .i64 a2_0, .int .i64 a2_1] 23 (0, 0))) := ⟨by rw [← hq_]; exact (bk BK702)⟩; have n1_ : Aside0 (Below w.heap.size w w39) := ⟨by rw [← hq_]; exact (bw HB)⟩; clear BK702 HB hq_; have BK702 := n0_; have HB := n1_; clear n0_ n1_))
         replace BK702 := Aside0.mk (blk_drew BK702.out)
         replace HB := Aside0.mk (below_drew1 HB.out)
         refine start_ (n := 8) (S := fun w' => w'.cell? ⟨gb702, 0, none⟩ = some (.int .i64 a2_0) ∧ w'.cell? ⟨gb702, 1, none⟩ = some (.int .i64 a2_1)) (ds := []) #[false, false, false, false, false, false, false, false] (by kernel_rfl) rfl rfl ⟨(blk_cell BK702.out 0).trans rfl, (blk_cell BK702.out 1).trans rfl⟩ (fun hHeld => ?_); refine with_tabW environlaw03_TextsBack.tab14 environlaw03_TextsBack.bits14 (fun HT_ HW_ => ?_)
         generalize w39.drew = w40 at BK702 HB hHeld ⊢
         refine pu 3 91 (bl 8 8) HT_ ?_
         refine pu 4 92 (bl 8 24) HT_ ?_
         refine ta 0 88 (bl 8 25) HT_ HW_ hHeld ?_
         refine ta 2 90 (bl 8 29) HT_ HW_ hHeld ?_
         refine one_ (i := 1) (N := some 89) #[true, true, true, true, true, false, false, false] rfl rfl (one_of HT_.out (by kernel_rfl)) (by decide) (fun K hK => ?_)
         refine goes_ Tryz.func26 (by kernel_rfl) rfl #[.agg #[.int .i64 a2_0, .int .i64 a2_1]] (by rfl) rfl rfl (by (try simp only [List.map_toArray, List.map_cons, List.map_nil]); first | done | rfl | (simp only [List.length_drop, List.length_take]; rfl)) ?_
         with_reducible refine (texts_Denote.calls a2_0 a2_1 t717 _ (env_at HE_.out (bw HB)) A35.out).mono ?_
         rintro e w41 ⟨rfl, hb⟩
         refine ⟨_, rfl, ?_⟩
         replace BK702 := Aside0.mk (bb BK702 hb)
         replace HB := Aside0.mk (below_step (bw HB) hb)
         (try clear hb)
         (try clear hb2)
         (try clear hk)
         (try clear hi)
         refine hK.out _ _ ⟨(blk_cell BK702.out 0).trans rfl, (blk_cell BK702.out 1).trans rfl⟩ (fun hHeld => ?_)
         clear hK K
         refine norm_ (a' := ?_) ?_ ?_
         rotate_left
         ·show Act.put _ (some 89) _ = _
          simp only [sx, i64_w, i32_w]
          rfl
         refine one_ (i := 5) (N := some 93) #[true, true, true, true, true, true, false, false] rfl rfl (one_of HT_.out (by kernel_rfl)) (by decide) (fun K hK => ?_)
         refine goes_ Tryz.func10 (by kernel_rfl) rfl #[.agg #[.int .i64 a2_0, .int .i64 a2_1], .int .i64 0, .int .i64 (wrap64 (t715 - 1)), .int .i64 0] (by rfl) rfl rfl (by (try simp only [List.map_toArray, List.map_cons, List.map_nil]); first | done | rfl | (simp only [List.length_drop, List.length_take]; rfl)) ?_
         with_reducible refine (texts_Float.calls kj19 a2_0 a2_1 0 (wrap64 (t715 - 1)) 0 t718 _ (env_at HE_.out (bw HB)) A36.out).mono ?_
         rintro e w42 ⟨rfl, hb⟩
         refine ⟨_, rfl, ?_⟩
         replace BK702 := Aside0.mk (bb BK702 hb)
         replace HB := Aside0.mk (below_step (bw HB) hb)
         (try clear hb)
         (try clear hb2)
         (try clear hk)
         (try clear hi)
         refine hK.out _ _ ⟨(blk_cell BK702.out 0).trans rfl, (blk_cell BK702.out 1).trans rfl⟩ (fun hHeld => ?_)
         clear hK K
         refine norm_ (a' := ?_) ?_ ?_
         rotate_left
         ·show Act.put _ (some 93) _ = _
          simp only [sx, i64_w, i32_w]
          rfl
         refine one_ (i := 6) (N := some 94) #[true, true, true, true, true, true, true, false] rfl rfl (one_of HT_.out (by kernel_rfl)) (by decide) (fun K hK => ?_)
         refine Kd.R_lit_step Kd.string _ 9 ?hg (N := 94) ?hd (xs := ([t717, t718] : List ByteArray)) (inner := [.string t717, .string t718]) (ok := fun _ => True) (okp := fun _ => True) ?hr ?hp (fun _ hk => hk) trivial (Below.refl _ _) (Nat.le_refl _) (by simp) ?_; (case hd => rfl); (case hg => rfl); (case hr => first | (go_simp; done) | (go_simp; rfl)); (case hp => exact (Reps.one (show Kd.M Kd.string _ _ _ t717 [.string t717] from rfl) (Reps.one (show Kd.M Kd.string _ _ _ t718 [.string t718] from rfl) (Reps.none _ _))))
         intro v720 w43 ho44 hb hg_ hnew_
         clear hg_ hnew_
         (first | rw [← Ny719.out] at ho44 | (simp only [Int.reduceToNat] at ho44; rw [← Ny719.out] at ho44))
         have HO721 := Aside0.mk (Kd.R_lower ho44 (below_size (bw HB)))
         replace BK702 := Aside0.mk (bb BK702 hb)
         replace HB := Aside0.mk (below_step (bw HB) hb)
         clear hb ho44
         refine hK.out _ _ ⟨(blk_cell BK702.out 0).trans rfl, (blk_cell BK702.out 1).trans rfl⟩ (fun hHeld => ?_)
         clear hK K
         refine norm_ (a' := ?_) ?_ ?_
         rotate_left
         ·show Act.put _ (some 94) _ = _
          simp only [sx, i64_w, i32_w]
          rfl
         refine pu 7 17 (bl 8 255) HT_ ?_
         refine done_ (done_of HT_.out (by kernel_rfl)) ?_
         obtain ⟨hcz45_0, hcz45_1, hfz45_0, hfz45_1⟩ := cf2 BK702
         go_upto_if 97 with (fail)
         go_cut [17] (fun v17 wc => ∃ (kq : Nat) (x17_36 : List ByteArray), Aside0 (environlaw03_TextsBack.j2 kq a0 x17_36 a2_0 a2_1 = some r) ∧ Aside0 (kq ≤ kj19) ∧ Aside0 (Kd.R Kd.string 9 wc w.heap.size (fun _ => True) v17 x17_36) ∧ Aside0 (wc.heap[gb702]? = some (.cells #[.int .i64 a2_0, .int .i64 a2_1] 23 (0, 0))) ∧ Aside0 (Below w.heap.size w wc))
         case first =>
          have H := HC37.out
          clear HC37
          by_cases c46 : a2_1 ≥ (-500)
          ·rw [if_pos c46] at H
           have c46b0 : decide ((-500) ≤ a2_1) = true := decide_eq_true c46
           clear c46
           (first | rw [c46b0] | (simp only [i64_w, i32_w]; rw [c46b0]) | skip)
           obtain ⟨ji47, hji47⟩ : ∃ j_ : Int, (mx 0 (wrap64 (-a2_1))) = j_ := ⟨_, rfl⟩
           replace H : ((texts_Fixed.f kj19 a2_0 a2_1 0 (ji47)).bind fun t722 => (if y719.length < 8796093022208 then (environlaw03_TextsBack.j2 kj19 a0 (y719 ++ [t722]) a2_0 a2_1) else (none))) = some r := by first | (rw [hji47] at H; exact H) | (simp only [hji47] at H ⊢; exact H)
           have hji47_ : (if 0 < (wrap64 (-a2_1)) then (wrap64 (-a2_1)) else 0) = ji47 := hji47
           replace H := Option.bind_eq_some_iff.mp H
           obtain ⟨t722, A480, H⟩ := H
           replace H : (if y719.length < 8796093022208 then (environlaw03_TextsBack.j2 kj19 a0 (y719 ++ [t722]) a2_0 a2_1) else (none)) = some r := H
           have A48 := Aside0.mk A480
           clear A480
           by_cases c49 : y719.length < 8796093022208
           ·rw [if_pos c49] at H
            have LMc49 := Aside0.mk c49
            clear c49
            obtain ⟨y723, hy723⟩ : ∃ y_ : List ByteArray, y_ = (y719 ++ [t722]) := ⟨_, rfl⟩
            replace H : (environlaw03_TextsBack.j2 kj19 a0 y723 a2_0 a2_1) = some r := by first | (rw [hy723]; with_reducible exact H) | (have H2_ := (Option.bind_some _ _).symm.trans H; rw [hy723]; with_reducible exact H2_) | (have H2_ := (Option.bind_some _ _).symm.trans H; with_reducible exact H2_) | with_reducible exact H | (rw [hy723]; exact H) | exact H
            have Ny723 := Aside0.mk hy723
            clear hy723
            have H' := Aside0.mk H
            clear H
            obtain ⟨hcz50_0, hcz50_1, hfz50_0, hfz50_1⟩ := cf2 BK702
            go_wp2_with (first | ((with_reducible refine gate_callee (f := 9) rfl ?_); refine goesL_ (some 104) rfl rfl Tryz.func9 (by kernel_rfl) rfl #[.agg #[.int .i64 a2_0, .int .i64 a2_1], .int .i64 0, .int .i64 ji47] rfl (by (try simp only [List.map_toArray, List.map_cons, List.map_nil]); first | done | (simp only [hji47]; rfl) | rfl | (simp only [List.length_drop, List.length_take]; rfl)) ?_; (with_reducible refine (texts_Fixed.calls kj19 a2_0 a2_1 0 ji47 t722 _ (env_at HE_.out (bw HB)) A48.out).mono ?_); rintro e w51 ⟨rfl, hb⟩; refine ⟨_, rfl, ?_⟩; replace HO721 := Aside0.mk (Kd.R_below (by (with_reducible repeat (first | apply Kd.R_alloc | apply Kd.R_drewN | apply Kd.R_drew)); exact HO721.out) hb); replace BK702 := Aside0.mk (bb BK702 hb); replace HB := Aside0.mk (below_step (bw HB) hb); (try clear hb); (try clear hb2); (try clear hk); (try clear hi)) | ((with_reducible refine gate_builtin (b := .append) (xs := #[.tmp 98, .tmp 105]) rfl ?_); (try (refine gate_guard (by rfl) ?_; dsimp only)); at_builtin; refine Kd.R_append Kd.string (w0 := w) w.heap.size rfl (.tmp 98) (.tmp 105) 30 9 (.string ⟨#[]⟩) 16 rfl Tryz.underlying30 info9 rfl (by decide) (by omega) v720 y719 t722 [.string t722] (fun _ => True) (fun _ => False) rfl rfl ?aP (fun _ hk => hk.elim) ?aF ?aO ?aB ?aS ?aL ?_; (case aP => exact rfl); (case aB => exact (bw HB)); (case aF => exact (fun _ _ => trivial)); (case aO => exact (by (with_reducible repeat (first | apply Kd.R_alloc | apply Kd.R_drewN | apply Kd.R_drew)); exact HO721.out)); (case aS => exact (below_size (bw HB))); (case aL => have := LMc49.out; omega); intro v724 w52 ho hb hg hat; rw [← Ny723.out] at ho; replace BK702 := Aside0.mk (blk_grown (g := gb702) (o := .cells #[.int .i64 a2_0, .int .i64 a2_1] 23 (0, 0)) (bk BK702) hg (Kd.R_ne HO721.out BK702.out (by decide))); replace HB := Aside0.mk (hb); have HO725 := Aside0.mk (ho); clear HO721; clear ho hb hg hat))
            go_meet
            case rel => exact ⟨_, (y723), H', ⟨by have := HJ8.out; have := HJ19.out; first | omega | exact Nat.le_refl _⟩, ⟨by (with_reducible repeat (first | apply Kd.R_alloc | apply Kd.R_drewN | apply Kd.R_drew)); exact HO725.out⟩, ⟨by (with_reducible repeat (first | refine blk_drewN ?_ _ | refine blk_drew ?_ | refine blk_alloc ?_ _)); exact BK702.out⟩, ⟨bw HB⟩⟩
           ·rw [if_neg c49] at H
            exact absurd H (by simp)
          ·rw [if_neg c46] at H
           have c46b0 : decide ((-500) ≤ a2_1) = false := decide_eq_false c46
           clear c46
           (first | rw [c46b0] | (simp only [i64_w, i32_w]; rw [c46b0]) | skip)
           have H' := Aside0.mk H
           clear H
           go_wp2
           go_meet
           case rel => exact ⟨_, (y719), H', ⟨by have := HJ8.out; have := HJ19.out; first | omega | exact Nat.le_refl _⟩, ⟨by (with_reducible repeat (first | apply Kd.R_alloc | apply Kd.R_drewN | apply Kd.R_drew)); exact HO721.out⟩, ⟨by (with_reducible repeat (first | refine blk_drewN ?_ _ | refine blk_drew ?_ | refine blk_alloc ?_ _)); exact BK702.out⟩, ⟨bw HB⟩⟩
         case rest =>
          clear HC37
          try clear c1
          try clear c2
          try clear p2
          try clear c3
          try clear c4
          try clear c5
          try clear c6
          try clear p6
          try clear c7
          try clear c7b0
          try clear c7b1
          try clear c7b2
          try clear c8
          try clear c9
          try clear c10
          try clear c14
          try clear c14b0
          try clear c14b1
          try clear c15
          try clear c15b0
          try clear c15b1
          try clear c16
          try clear c18
          try clear c22
          try clear c22b0
          try clear c22b1
          try clear c23
          try clear c23b0
          try clear c23b1
          try clear c23b2
          try clear c24
          try clear c25
          try clear c25b0
          try clear c25b1
          try clear c26
          try clear c26b0
          try clear c26b1
          try clear c27
          try clear c27b0
          try clear c27b1
          try clear c33
          try clear c46
          try clear c46b0
          try clear c49
          try clear hcz38_0
          try clear hcz38_1
          try clear hcz45_0
          try clear hcz45_1
          try clear hcz50_0
          try clear hcz50_1
          try clear hfz38_0
          try clear hfz38_1
          try clear hfz45_0
          try clear hfz45_1
          try clear hfz50_0
          try clear hfz50_1
          try clear p2
          obtain ⟨kq, x17_36, HA, HJ36, HO_17, BK702, HB⟩ := hcut
          cases kq with
          | zero => exact absurd HA.out (by simp [environlaw03_TextsBack.j2])
          | succ kj36 =>
           have H := HA.out
           clear HA
           simp only [environlaw03_TextsBack.j2] at H
           have H' := Aside0.mk H
           clear H
           obtain ⟨Ao53, co53, eo53⟩ := Kd.R_slice HO_17.out
           subst eo53
           go_wp2
           go_loopg [109] kj36 (fun kq v109 w' => ∃ (x109_4 : Int), v109 = .int .i64 x109_4 ∧ Aside0 (environlaw03_TextsBack.l0 kq a0 x17_36 (x17_36.length : Int) x109_4 a2_0 a2_1 = some r) ∧ Aside0 (kq ≤ kj36) ∧ Aside0 (Kd.R Kd.string 9 w' w.heap.size (fun _ => True) (.slice Ao53 x17_36.length co53) x17_36) ∧ Aside0 (w'.heap[gb702]? = some (.cells #[.int .i64 a2_0, .int .i64 a2_1] 23 (0, 0))) ∧ Aside0 (Below w.heap.size w w'))
           case atStart => exact ⟨(0), (by first | rfl | (simp; done) | (simp [*]; done)), H', ⟨Nat.le_refl _⟩, ⟨by (with_reducible repeat (first | apply Kd.R_alloc | apply Kd.R_drewN | apply Kd.R_drew)); exact HO_17.out⟩, ⟨by (with_reducible repeat (first | refine blk_drewN ?_ _ | refine blk_drew ?_ | refine blk_alloc ?_ _)); exact BK702.out⟩, ⟨bw HB⟩⟩
           case round =>
            clear H'
            try clear c1
            try clear c2
            try clear p2
            try clear c3
            try clear c4
            try clear c5
            try clear c6
            try clear p6
            try clear c7
            try clear c7b0
            try clear c7b1
            try clear c7b2
            try clear c8
            try clear c9
            try clear c10
            try clear c14
            try clear c14b0
            try clear c14b1
            try clear c15
            try clear c15b0
            try clear c15b1
            try clear c16
            try clear c18
            try clear c22
            try clear c22b0
            try clear c22b1
            try clear c23
            try clear c23b0
            try clear c23b1
            try clear c23b2
            try clear c24
            try clear c25
            try clear c25b0
            try clear c25b1
            try clear c26
            try clear c26b0
            try clear c26b1
            try clear c27
            try clear c27b0
            try clear c27b1
            try clear c33
            try clear c46
            try clear c46b0
            try clear c49
            try clear hcz38_0
            try clear hcz38_1
            try clear hcz45_0
            try clear hcz45_1
            try clear hcz50_0
            try clear hcz50_1
            try clear hfz38_0
            try clear hfz38_1
            try clear hfz45_0
            try clear hfz45_1
            try clear hfz50_0
            try clear hfz50_1
            try clear p2
            try clear p6
            obtain ⟨x109_4, rfl, HA, HK4, HO_107, BK702, HB⟩ := hrel
            cases gk with
            | zero => exact absurd HA.out (by simp [environlaw03_TextsBack.l0])
            | succ k4 =>
             have H := HA.out
             clear HA
             simp only [environlaw03_TextsBack.l0] at H
             by_cases c54 : x109_4 < (x17_36.length : Int)
             ·rw [if_pos c54] at H
              have c54b0 : decide (x109_4 < (x17_36.length : Int)) = true := decide_eq_true c54
              clear c54
              by_cases c55 : 0 ≤ x109_4
              ·rw [if_pos c55] at H
               have c55b0 : decide (0 ≤ x109_4) = true := decide_eq_true c55
               clear c55
               by_cases c56 : x109_4 < (x17_36.length : Int)
               ·rw [if_pos c56] at H
                have c56b0 : decide (x109_4 < (x17_36.length : Int)) = true := decide_eq_true c56
                clear c56
                by_cases c57 : (rdOf ByteArray.empty x17_36 x109_4).size + 1 ≤ 9223372036854775807
                ·rw [if_pos c57] at H
                 have c57b0 := eq_true c57
                 have c57b1 : decide ((rdOf ByteArray.empty x17_36 x109_4).size + 1 ≤ 9223372036854775807) = true := decide_eq_true c57
                 try have c57b2 : (9223372036854775807 < (rdOf ByteArray.empty x17_36 x109_4).size + 1) = False := eq_false (Nat.not_lt.2 c57)
                 replace H := Option.bind_eq_some_iff.mp H
                 obtain ⟨⟨t727, t728, t729, t730⟩, A580, H⟩ := H
                 replace H : (if (!(t727 == a2_0) || (!(t728 == a2_1))) = true then (some false) else (if t729 = ((rdOf ByteArray.empty x17_36 x109_4).size : Int) then (if t730 = 0 then (environlaw03_TextsBack.l0 k4 a0 x17_36 (x17_36.length : Int) (wrap64 (x109_4 + 1)) a2_0 a2_1) else (some false)) else (some false))) = some r := H
                 have A58 := Aside0.mk A580
                 clear A580
                 by_cases c59 : (!(t727 == a2_0) || (!(t728 == a2_1))) = true
                 ·rw [if_pos c59] at H
                  have c59b0 : (!(t727 == a2_0) || (!(t728 == a2_1))) = true := c59
                  clear c59
                  obtain rfl := Option.some.inj H
                  have p726 : 0 ≤ (x109_4 : Int) := of_decide_eq_true (by first | (with_reducible assumption) | assumption)
                  have q726 : x109_4 < (x17_36.length : Int) := of_decide_eq_true (by first | (with_reducible assumption) | assumption)
                  obtain ⟨ad726, e726, hx726_0⟩ := Kd.at_string (Kd.R_reads' HO_107.out).2.2 x109_4 p726 q726
                  cases e726
                  replace p726 := eq_true p726
                  replace q726 := eq_true q726
                  go_wp2_with (first | ((with_reducible refine gate_callee (f := 20) rfl ?_); refine goesL_ (some 117) rfl rfl Tryz.func20 (by kernel_rfl) rfl #[.int .i64 a0, .string ((rdOf ByteArray.empty x17_36 x109_4) ++ (⟨#[32]⟩ : ByteArray))] rfl (by (try simp only [List.map_toArray, List.map_cons, List.map_nil]); first | done | rfl | (simp only [List.length_drop, List.length_take]; rfl)) ?_; (with_reducible refine (texts_ReadReal.calls k4 a0 ((rdOf ByteArray.empty x17_36 x109_4) ++ (⟨#[32]⟩ : ByteArray)) t727 t728 t729 t730 _ A58.out).mono ?_); rintro e w60 ⟨rfl, hb⟩; refine ⟨_, rfl, ?_⟩; replace HO_107 := Aside0.mk (Kd.R_below (by (with_reducible repeat (first | apply Kd.R_alloc | apply Kd.R_drewN | apply Kd.R_drew)); exact HO_107.out) hb); replace BK702 := Aside0.mk (bb BK702 hb); replace HB := Aside0.mk (below_step (bw HB) hb); (try clear hb); (try clear hb2); (try clear hk); (try clear hi)) | ((with_reducible refine gate_dst (N := 20) rfl ?_); (try (refine gate_guard (by rfl) ?_; dsimp only)); refine box_event ?hg (N := 20) ?hd (cs := #[.int .i64 0, .int .i64 0]) (t := 23) ?hr ?_; (case hd => rfl); (case hg => rfl); (case hr => first | (go_simp; done) | (go_simp; rfl)); intro gb731 hg w61 hbox hb; replace HO_107 := Aside0.mk (Kd.R_below (by (with_reducible repeat (first | apply Kd.R_alloc | apply Kd.R_drewN | apply Kd.R_drew)); exact HO_107.out) hb); have BK731 := Aside0.mk (hbox); have GW731 := Aside0.mk (bs HB hg : w.heap.size ≤ gb731); replace HB := Aside0.mk (below_step (bw HB) hb); have NB702_731 := Aside0.mk (nl BK702 hg); have NB731_702 := Aside0.mk (ng BK702 hg); replace BK702 := Aside0.mk (bb BK702 hb); clear hb hbox hg; have hnb62 := NB731_702.out; have hnc62 := NB702_731.out; obtain ⟨hcz63_0, hcz63_1, hfz63_0, hfz63_1⟩ := cf2 BK731; obtain ⟨hcz64_0, hcz64_1, hfz64_0, hfz64_1⟩ := cf2 BK702))
                  go_ret
                  exact ⟨by first | rfl | (simp [errW_none, errW_some] <;> rfl) | (simp [*, errW_none, errW_some] <;> rfl), bw HB⟩
                 ·rw [if_neg c59] at H
                  have c59b0 : (!(t727 == a2_0) || (!(t728 == a2_1))) = false := by simpa using c59
                  clear c59
                  by_cases c65 : t729 = ((rdOf ByteArray.empty x17_36 x109_4).size : Int)
                  ·rw [if_pos c65] at H
                   have c65b0 : (t729 == ((rdOf ByteArray.empty x17_36 x109_4).size : Int)) = true := beq_iff_eq.mpr c65
                   have c65b1 : (t729 != ((rdOf ByteArray.empty x17_36 x109_4).size : Int)) = false := bne_eq_false_iff_eq.mpr c65
                   clear c65
                   by_cases c66 : t730 = 0
                   ·rw [if_pos c66] at H
                    have c66b0 : (t730 == 0) = true := beq_iff_eq.mpr c66
                    have c66b1 : (t730 != 0) = false := bne_eq_false_iff_eq.mpr c66
                    clear c66
                    have H' := Aside0.mk H
                    clear H
                    have p726 : 0 ≤ (x109_4 : Int) := of_decide_eq_true (by first | (with_reducible assumption) | assumption)
                    have q726 : x109_4 < (x17_36.length : Int) := of_decide_eq_true (by first | (with_reducible assumption) | assumption)
                    obtain ⟨ad726, e726, hx726_0⟩ := Kd.at_string (Kd.R_reads' HO_107.out).2.2 x109_4 p726 q726
                    cases e726
                    replace p726 := eq_true p726
                    replace q726 := eq_true q726
                    go_wp2_with (first | ((with_reducible refine gate_callee (f := 20) rfl ?_); refine goesL_ (some 117) rfl rfl Tryz.func20 (by kernel_rfl) rfl #[.int .i64 a0, .string ((rdOf ByteArray.empty x17_36 x109_4) ++ (⟨#[32]⟩ : ByteArray))] rfl (by (try simp only [List.map_toArray, List.map_cons, List.map_nil]); first | done | rfl | (simp only [List.length_drop, List.length_take]; rfl)) ?_; (with_reducible refine (texts_ReadReal.calls k4 a0 ((rdOf ByteArray.empty x17_36 x109_4) ++ (⟨#[32]⟩ : ByteArray)) t727 t728 t729 t730 _ A58.out).mono ?_); rintro e w67 ⟨rfl, hb⟩; refine ⟨_, rfl, ?_⟩; replace HO_107 := Aside0.mk (Kd.R_below (by (with_reducible repeat (first | apply Kd.R_alloc | apply Kd.R_drewN | apply Kd.R_drew)); exact HO_107.out) hb); replace BK702 := Aside0.mk (bb BK702 hb); replace HB := Aside0.mk (below_step (bw HB) hb); (try clear hb); (try clear hb2); (try clear hk); (try clear hi)) | ((with_reducible refine gate_dst (N := 20) rfl ?_); (try (refine gate_guard (by rfl) ?_; dsimp only)); refine box_event ?hg (N := 20) ?hd (cs := #[.int .i64 0, .int .i64 0]) (t := 23) ?hr ?_; (case hd => rfl); (case hg => rfl); (case hr => first | (go_simp; done) | (go_simp; rfl)); intro gb731 hg w68 hbox hb; replace HO_107 := Aside0.mk (Kd.R_below (by (with_reducible repeat (first | apply Kd.R_alloc | apply Kd.R_drewN | apply Kd.R_drew)); exact HO_107.out) hb); have BK731 := Aside0.mk (hbox); have GW731 := Aside0.mk (bs HB hg : w.heap.size ≤ gb731); replace HB := Aside0.mk (below_step (bw HB) hb); have NB702_731 := Aside0.mk (nl BK702 hg); have NB731_702 := Aside0.mk (ng BK702 hg); replace BK702 := Aside0.mk (bb BK702 hb); clear hb hbox hg; have hnb69 := NB731_702.out; have hnc69 := NB702_731.out; obtain ⟨hcz70_0, hcz70_1, hfz70_0, hfz70_1⟩ := cf2 BK731; obtain ⟨hcz71_0, hcz71_1, hfz71_0, hfz71_1⟩ := cf2 BK702))
                    go_roundg k4
                    case measure => have := HJ8.out; have := HJ19.out; have := HJ36.out; have := HK4.out; omega
                    case rel => exact ⟨(wrap64 (x109_4 + 1)), (by first | rfl | (simp; done) | (simp [*]; done)), H', ⟨by have := HJ8.out; have := HJ19.out; have := HJ36.out; have := HK4.out; omega⟩, ⟨by (with_reducible repeat (first | apply Kd.R_alloc | apply Kd.R_drewN | apply Kd.R_drew)); exact Kd.R_mono (Kd.R_far (p := ⟨gb731, 1, none⟩) (Kd.R_far (p := ⟨gb731, 0, none⟩) (Kd.R_types HO_107.out BK731.out (by decide)) (fun _ hk => hk.2) (.int .i64 t727)) (fun _ hk => hk.2) (.int .i64 t728)) (fun _ hk => trivial)⟩, ⟨by (with_reducible repeat (first | refine blk_drewN ?_ _ | refine blk_drew ?_ | refine blk_alloc ?_ _)); refine blk_far ?_ NB702_731.out _; (with_reducible repeat (first | refine blk_drewN ?_ _ | refine blk_drew ?_ | refine blk_alloc ?_ _)); refine blk_far ?_ NB702_731.out _; (with_reducible repeat (first | refine blk_drewN ?_ _ | refine blk_drew ?_ | refine blk_alloc ?_ _)); exact BK702.out⟩, ⟨bw HB⟩⟩
                   ·rw [if_neg c66] at H
                    have c66b0 : (t730 == 0) = false := beq_eq_false_iff_ne.mpr c66
                    have c66b1 : (t730 != 0) = true := bne_iff_ne.mpr c66
                    obtain rfl := Option.some.inj H
                    have p726 : 0 ≤ (x109_4 : Int) := of_decide_eq_true (by first | (with_reducible assumption) | assumption)
                    have q726 : x109_4 < (x17_36.length : Int) := of_decide_eq_true (by first | (with_reducible assumption) | assumption)
                    obtain ⟨ad726, e726, hx726_0⟩ := Kd.at_string (Kd.R_reads' HO_107.out).2.2 x109_4 p726 q726
                    cases e726
                    replace p726 := eq_true p726
                    replace q726 := eq_true q726
                    go_wp2_with (first | ((with_reducible refine gate_callee (f := 20) rfl ?_); refine goesL_ (some 117) rfl rfl Tryz.func20 (by kernel_rfl) rfl #[.int .i64 a0, .string ((rdOf ByteArray.empty x17_36 x109_4) ++ (⟨#[32]⟩ : ByteArray))] rfl (by (try simp only [List.map_toArray, List.map_cons, List.map_nil]); first | done | rfl | (simp only [List.length_drop, List.length_take]; rfl)) ?_; (with_reducible refine (texts_ReadReal.calls k4 a0 ((rdOf ByteArray.empty x17_36 x109_4) ++ (⟨#[32]⟩ : ByteArray)) t727 t728 t729 t730 _ A58.out).mono ?_); rintro e w72 ⟨rfl, hb⟩; refine ⟨_, rfl, ?_⟩; replace HO_107 := Aside0.mk (Kd.R_below (by (with_reducible repeat (first | apply Kd.R_alloc | apply Kd.R_drewN | apply Kd.R_drew)); exact HO_107.out) hb); replace BK702 := Aside0.mk (bb BK702 hb); replace HB := Aside0.mk (below_step (bw HB) hb); (try clear hb); (try clear hb2); (try clear hk); (try clear hi)) | ((with_reducible refine gate_dst (N := 20) rfl ?_); (try (refine gate_guard (by rfl) ?_; dsimp only)); refine box_event ?hg (N := 20) ?hd (cs := #[.int .i64 0, .int .i64 0]) (t := 23) ?hr ?_; (case hd => rfl); (case hg => rfl); (case hr => first | (go_simp; done) | (go_simp; rfl)); intro gb731 hg w73 hbox hb; replace HO_107 := Aside0.mk (Kd.R_below (by (with_reducible repeat (first | apply Kd.R_alloc | apply Kd.R_drewN | apply Kd.R_drew)); exact HO_107.out) hb); have BK731 := Aside0.mk (hbox); have GW731 := Aside0.mk (bs HB hg : w.heap.size ≤ gb731); replace HB := Aside0.mk (below_step (bw HB) hb); have NB702_731 := Aside0.mk (nl BK702 hg); have NB731_702 := Aside0.mk (ng BK702 hg); replace BK702 := Aside0.mk (bb BK702 hb); clear hb hbox hg; have hnb74 := NB731_702.out; have hnc74 := NB702_731.out; obtain ⟨hcz75_0, hcz75_1, hfz75_0, hfz75_1⟩ := cf2 BK731; obtain ⟨hcz76_0, hcz76_1, hfz76_0, hfz76_1⟩ := cf2 BK702))
                    go_ret
                    exact ⟨by first | rfl | (simp [errW_none, errW_some] <;> rfl) | (simp [*, errW_none, errW_some] <;> rfl), bw HB⟩
                  ·rw [if_neg c65] at H
                   have c65b0 : (t729 == ((rdOf ByteArray.empty x17_36 x109_4).size : Int)) = false := beq_eq_false_iff_ne.mpr c65
                   have c65b1 : (t729 != ((rdOf ByteArray.empty x17_36 x109_4).size : Int)) = true := bne_iff_ne.mpr c65
                   obtain rfl := Option.some.inj H
                   have p726 : 0 ≤ (x109_4 : Int) := of_decide_eq_true (by first | (with_reducible assumption) | assumption)
                   have q726 : x109_4 < (x17_36.length : Int) := of_decide_eq_true (by first | (with_reducible assumption) | assumption)
                   obtain ⟨ad726, e726, hx726_0⟩ := Kd.at_string (Kd.R_reads' HO_107.out).2.2 x109_4 p726 q726
                   cases e726
                   replace p726 := eq_true p726
                   replace q726 := eq_true q726
                   go_wp2_with (first | ((with_reducible refine gate_callee (f := 20) rfl ?_); refine goesL_ (some 117) rfl rfl Tryz.func20 (by kernel_rfl) rfl #[.int .i64 a0, .string ((rdOf ByteArray.empty x17_36 x109_4) ++ (⟨#[32]⟩ : ByteArray))] rfl (by (try simp only [List.map_toArray, List.map_cons, List.map_nil]); first | done | rfl | (simp only [List.length_drop, List.length_take]; rfl)) ?_; (with_reducible refine (texts_ReadReal.calls k4 a0 ((rdOf ByteArray.empty x17_36 x109_4) ++ (⟨#[32]⟩ : ByteArray)) t727 t728 t729 t730 _ A58.out).mono ?_); rintro e w77 ⟨rfl, hb⟩; refine ⟨_, rfl, ?_⟩; replace HO_107 := Aside0.mk (Kd.R_below (by (with_reducible repeat (first | apply Kd.R_alloc | apply Kd.R_drewN | apply Kd.R_drew)); exact HO_107.out) hb); replace BK702 := Aside0.mk (bb BK702 hb); replace HB := Aside0.mk (below_step (bw HB) hb); (try clear hb); (try clear hb2); (try clear hk); (try clear hi)) | ((with_reducible refine gate_dst (N := 20) rfl ?_); (try (refine gate_guard (by rfl) ?_; dsimp only)); refine box_event ?hg (N := 20) ?hd (cs := #[.int .i64 0, .int .i64 0]) (t := 23) ?hr ?_; (case hd => rfl); (case hg => rfl); (case hr => first | (go_simp; done) | (go_simp; rfl)); intro gb731 hg w78 hbox hb; replace HO_107 := Aside0.mk (Kd.R_below (by (with_reducible repeat (first | apply Kd.R_alloc | apply Kd.R_drewN | apply Kd.R_drew)); exact HO_107.out) hb); have BK731 := Aside0.mk (hbox); have GW731 := Aside0.mk (bs HB hg : w.heap.size ≤ gb731); replace HB := Aside0.mk (below_step (bw HB) hb); have NB702_731 := Aside0.mk (nl BK702 hg); have NB731_702 := Aside0.mk (ng BK702 hg); replace BK702 := Aside0.mk (bb BK702 hb); clear hb hbox hg; have hnb79 := NB731_702.out; have hnc79 := NB702_731.out; obtain ⟨hcz80_0, hcz80_1, hfz80_0, hfz80_1⟩ := cf2 BK731; obtain ⟨hcz81_0, hcz81_1, hfz81_0, hfz81_1⟩ := cf2 BK702))
                   go_ret
                   exact ⟨by first | rfl | (simp [errW_none, errW_some] <;> rfl) | (simp [*, errW_none, errW_some] <;> rfl), bw HB⟩
                ·rw [if_neg c57] at H
                 exact absurd H (by simp)
               ·rw [if_neg c56] at H
                exact absurd H (by simp)
              ·rw [if_neg c55] at H
               exact absurd H (by simp)
             ·rw [if_neg c54] at H
              have c54b0 : decide (x109_4 < (x17_36.length : Int)) = false := decide_eq_false c54
              clear c54
              by_cases c82 : a2_0 < 0
              ·rw [if_pos c82] at H
               have c82b0 : decide (a2_0 < 0) = true := decide_eq_true c82
               clear c82
               obtain rfl := Option.some.inj H
               have hcz83_0 : wr.cell? ⟨gb702, 0, none⟩ = some (.int .i64 a2_0) := (blk_cell BK702.out 0).trans rfl
               have hcz83_1 : wr.cell? ⟨gb702, 1, none⟩ = some (.int .i64 a2_1) := (blk_cell BK702.out 1).trans rfl
               have hfz83_0 := blk_frozen BK702.out 0
               have hfz83_1 := blk_frozen BK702.out 1
               go_wp2
               go_ret
               exact ⟨by first | rfl | (simp [errW_none, errW_some] <;> rfl) | (simp [*, errW_none, errW_some] <;> rfl), bw HB⟩
              ·rw [if_neg c82] at H
               have c82b0 : decide (a2_0 < 0) = false := decide_eq_false c82
               clear c82
               replace H := Option.bind_eq_some_iff.mp H
               obtain ⟨t732, A840, H⟩ := H
               replace H : ((texts_Real.f k4 a0 t732).bind fun bt733 => (if (bt733.1 == a2_0 && (bt733.2.1 == a2_1)) = true then (some (bt733.2.2 == 0)) else (some false))) = some r := H
               have A84 := Aside0.mk A840
               clear A840
               replace H := Option.bind_eq_some_iff.mp H
               obtain ⟨⟨t733, t734, t735⟩, A850, H⟩ := H
               replace H : (if (t733 == a2_0 && (t734 == a2_1)) = true then (some (t735 == 0)) else (some false)) = some r := H
               have A85 := Aside0.mk A850
               clear A850
               by_cases c86 : (t733 == a2_0 && (t734 == a2_1)) = true
               ·rw [if_pos c86] at H
                have c86b0 : (t733 == a2_0 && (t734 == a2_1)) = true := c86
                (try (have c86b1 : decide (t733 = a2_0 && (t734 == a2_1)) = true := by simpa using c86))
                (try (have c86b2 : (t733 == a2_0 && (t734 == a2_1)) = true := by simpa using c86))
                clear c86
                obtain rfl := Option.some.inj H
                have hcz87_0 : wr.cell? ⟨gb702, 0, none⟩ = some (.int .i64 a2_0) := (blk_cell BK702.out 0).trans rfl
                have hcz87_1 : wr.cell? ⟨gb702, 1, none⟩ = some (.int .i64 a2_1) := (blk_cell BK702.out 1).trans rfl
                have hfz87_0 := blk_frozen BK702.out 0
                have hfz87_1 := blk_frozen BK702.out 1
                go_wp2_with (first | ((with_reducible refine gate_callee (f := 26) rfl ?_); refine goesL_ (some 141) rfl rfl Tryz.func26 (by kernel_rfl) rfl #[.agg #[.int .i64 a2_0, .int .i64 a2_1]] rfl (by (try simp only [List.map_toArray, List.map_cons, List.map_nil]); first | done | rfl | (simp only [List.length_drop, List.length_take]; rfl)) ?_; (with_reducible refine (texts_Denote.calls a2_0 a2_1 t732 _ (env_at HE_.out (bw HB)) A84.out).mono ?_); rintro e w88 ⟨rfl, hb⟩; refine ⟨_, rfl, ?_⟩; replace HO_107 := Aside0.mk (Kd.R_below (by (with_reducible repeat (first | apply Kd.R_alloc | apply Kd.R_drewN | apply Kd.R_drew)); exact HO_107.out) hb); replace BK702 := Aside0.mk (bb BK702 hb); replace HB := Aside0.mk (below_step (bw HB) hb); (try clear hb); (try clear hb2); (try clear hk); (try clear hi)) | ((with_reducible refine gate_callee (f := 27) rfl ?_); refine goesL_ (some 142) rfl rfl Tryz.func27 (by kernel_rfl) rfl #[.int .i64 a0, .string t732] rfl (by (try simp only [List.map_toArray, List.map_cons, List.map_nil]); first | done | rfl | (simp only [List.length_drop, List.length_take]; rfl)) ?_; (with_reducible refine (texts_Real.calls k4 a0 t732 t733 t734 t735 _ A85.out).mono ?_); rintro e w89 ⟨rfl, hb⟩; refine ⟨_, rfl, ?_⟩; replace HO_107 := Aside0.mk (Kd.R_below (by (with_reducible repeat (first | apply Kd.R_alloc | apply Kd.R_drewN | apply Kd.R_drew)); exact HO_107.out) hb); replace BK702 := Aside0.mk (bb BK702 hb); replace HB := Aside0.mk (below_step (bw HB) hb); (try clear hb); (try clear hb2); (try clear hk); (try clear hi)) | ((with_reducible refine gate_dst (N := 23) rfl ?_); (try (refine gate_guard (by rfl) ?_; dsimp only)); refine box_event ?hg (N := 23) ?hd (cs := #[.int .i64 0, .int .i64 0]) (t := 23) ?hr ?_; (case hd => rfl); (case hg => rfl); (case hr => first | (go_simp; done) | (go_simp; rfl)); intro gb736 hg w90 hbox hb; replace HO_107 := Aside0.mk (Kd.R_below (by (with_reducible repeat (first | apply Kd.R_alloc | apply Kd.R_drewN | apply Kd.R_drew)); exact HO_107.out) hb); have BK736 := Aside0.mk (hbox); have GW736 := Aside0.mk (bs HB hg : w.heap.size ≤ gb736); replace HB := Aside0.mk (below_step (bw HB) hb); have NB702_736 := Aside0.mk (nl BK702 hg); have NB736_702 := Aside0.mk (ng BK702 hg); replace BK702 := Aside0.mk (bb BK702 hb); clear hb hbox hg; have hnb91 := NB736_702.out; have hnc91 := NB702_736.out; obtain ⟨hcz92_0, hcz92_1, hfz92_0, hfz92_1⟩ := cf2 BK736; obtain ⟨hcz93_0, hcz93_1, hfz93_0, hfz93_1⟩ := cf2 BK702))
                go_ret
                exact ⟨by first | rfl | (simp [errW_none, errW_some] <;> rfl) | (simp [*, errW_none, errW_some] <;> rfl), bw HB⟩
               ·rw [if_neg c86] at H
                have c86b0 : (t733 == a2_0 && (t734 == a2_1)) = false := by simpa using c86
                (try (have c86b1 : decide (t733 = a2_0 && (t734 == a2_1)) = false := by simpa using c86))
                (try (have c86b2 : (t733 == a2_0 && (t734 == a2_1)) = false := by simpa using c86))
                (try (have c86b3 : ¬ (t733 = a2_0 && (t734 == a2_1)) := by simpa using c86))
                clear c86
                obtain rfl := Option.some.inj H
                have hcz94_0 : wr.cell? ⟨gb702, 0, none⟩ = some (.int .i64 a2_0) := (blk_cell BK702.out 0).trans rfl
                have hcz94_1 : wr.cell? ⟨gb702, 1, none⟩ = some (.int .i64 a2_1) := (blk_cell BK702.out 1).trans rfl
                have hfz94_0 := blk_frozen BK702.out 0
                have hfz94_1 := blk_frozen BK702.out 1
                go_wp2_with (first | ((with_reducible refine gate_callee (f := 26) rfl ?_); refine goesL_ (some 141) rfl rfl Tryz.func26 (by kernel_rfl) rfl #[.agg #[.int .i64 a2_0, .int .i64 a2_1]] rfl (by (try simp only [List.map_toArray, List.map_cons, List.map_nil]); first | done | rfl | (simp only [List.length_drop, List.length_take]; rfl)) ?_; (with_reducible refine (texts_Denote.calls a2_0 a2_1 t732 _ (env_at HE_.out (bw HB)) A84.out).mono ?_); rintro e w95 ⟨rfl, hb⟩; refine ⟨_, rfl, ?_⟩; replace HO_107 := Aside0.mk (Kd.R_below (by (with_reducible repeat (first | apply Kd.R_alloc | apply Kd.R_drewN | apply Kd.R_drew)); exact HO_107.out) hb); replace BK702 := Aside0.mk (bb BK702 hb); replace HB := Aside0.mk (below_step (bw HB) hb); (try clear hb); (try clear hb2); (try clear hk); (try clear hi)) | ((with_reducible refine gate_callee (f := 27) rfl ?_); refine goesL_ (some 142) rfl rfl Tryz.func27 (by kernel_rfl) rfl #[.int .i64 a0, .string t732] rfl (by (try simp only [List.map_toArray, List.map_cons, List.map_nil]); first | done | rfl | (simp only [List.length_drop, List.length_take]; rfl)) ?_; (with_reducible refine (texts_Real.calls k4 a0 t732 t733 t734 t735 _ A85.out).mono ?_); rintro e w96 ⟨rfl, hb⟩; refine ⟨_, rfl, ?_⟩; replace HO_107 := Aside0.mk (Kd.R_below (by (with_reducible repeat (first | apply Kd.R_alloc | apply Kd.R_drewN | apply Kd.R_drew)); exact HO_107.out) hb); replace BK702 := Aside0.mk (bb BK702 hb); replace HB := Aside0.mk (below_step (bw HB) hb); (try clear hb); (try clear hb2); (try clear hk); (try clear hi)) | ((with_reducible refine gate_dst (N := 23) rfl ?_); (try (refine gate_guard (by rfl) ?_; dsimp only)); refine box_event ?hg (N := 23) ?hd (cs := #[.int .i64 0, .int .i64 0]) (t := 23) ?hr ?_; (case hd => rfl); (case hg => rfl); (case hr => first | (go_simp; done) | (go_simp; rfl)); intro gb736 hg w97 hbox hb; replace HO_107 := Aside0.mk (Kd.R_below (by (with_reducible repeat (first | apply Kd.R_alloc | apply Kd.R_drewN | apply Kd.R_drew)); exact HO_107.out) hb); have BK736 := Aside0.mk (hbox); have GW736 := Aside0.mk (bs HB hg : w.heap.size ≤ gb736); replace HB := Aside0.mk (below_step (bw HB) hb); have NB702_736 := Aside0.mk (nl BK702 hg); have NB736_702 := Aside0.mk (ng BK702 hg); replace BK702 := Aside0.mk (bb BK702 hb); clear hb hbox hg; have hnb98 := NB736_702.out; have hnc98 := NB702_736.out; obtain ⟨hcz99_0, hcz99_1, hfz99_0, hfz99_1⟩ := cf2 BK736; obtain ⟨hcz100_0, hcz100_1, hfz100_0, hfz100_1⟩ := cf2 BK702))
                go_ret
                exact ⟨by first | rfl | (simp [errW_none, errW_some] <;> rfl) | (simp [*, errW_none, errW_some] <;> rfl), bw HB⟩
        ·replace c33 := Bool.eq_false_iff.mpr c33
         subst c33
         have H1 : (some true) = some r := by rw [if_neg (show ¬ (false = true) by decide)] at H; exact H
         clear H
         have H := H1
         clear H1
         obtain rfl := Option.some.inj H
         have hcz101_0 : wc.cell? ⟨gb702, 0, none⟩ = some (.int .i64 a2_0) := (blk_cell BK702.out 0).trans rfl
         have hcz101_1 : wc.cell? ⟨gb702, 1, none⟩ = some (.int .i64 a2_1) := (blk_cell BK702.out 1).trans rfl
         have hfz101_0 := blk_frozen BK702.out 0
         have hfz101_1 := blk_frozen BK702.out 1
         go_wp2_with (first | ((with_reducible refine gate_callee (f := 24) rfl ?_); refine goesL_ (some 81) rfl rfl Tryz.func24 (by kernel_rfl) rfl #[.int .i64 a0, .agg #[.int .i64 a2_0, .int .i64 a2_1]] rfl (by (try simp only [List.map_toArray, List.map_cons, List.map_nil]); first | done | rfl | (simp only [List.length_drop, List.length_take]; rfl)) ?_; (with_reducible refine (environref02_Valid.calls kj19 a0 a2_0 a2_1 false _ A32.out).mono ?_); rintro e w102 ⟨rfl, hb⟩; refine ⟨_, rfl, ?_⟩; replace BK702 := Aside0.mk (bb BK702 hb); replace HB := Aside0.mk (below_step (bw HB) hb); (try clear hb); (try clear hb2); (try clear hk); (try clear hi)))
         go_ret
         exact ⟨by first | rfl | (simp [errW_none, errW_some] <;> rfl) | (simp [*, errW_none, errW_some] <;> rfl), bw HB⟩
  ·rw [if_neg c7] at H
   exact absurd H (by simp)
 ·replace c5 := Bool.eq_false_iff.mpr c5
  subst c5
  have H1 : (some false) = some r := by rw [if_neg (show ¬ (false = true) by decide)] at H; exact H
  clear H
  have H := H1
  clear H1
  obtain rfl := Option.some.inj H
  go_enter Tryz.func6, Tryz.ntmps6
  go_wp2_with (first | ((with_reducible refine gate_dst (N := 5) rfl ?_); (try (refine gate_guard (by rfl) ?_; dsimp only)); refine box_event ?hg (N := 5) ?hd (cs := #[.int .i64 a2_0, .int .i64 a2_1]) (t := 23) ?hr ?_; (case hd => rfl); (case hg => rfl); (case hr => first | (go_simp; done) | (go_simp; rfl)); intro gb702 hg w103 hbox hb; have BK702 := Aside0.mk (hbox); have GW702 := Aside0.mk (bs HB hg : w.heap.size ≤ gb702); replace HB := Aside0.mk (below_step (bw HB) hb); clear hb hbox hg) | ((with_reducible refine gate_callee (f := 7) rfl ?_); refine goesL_ (some 25) rfl rfl Tryz.func7 (by kernel_rfl) rfl #[] rfl (by (try simp only [List.map_toArray, List.map_cons, List.map_nil]); first | done | rfl | (simp only [List.length_drop, List.length_take]; rfl)) ?_; (with_reducible refine (environlaw03_awake.calls k  false _ (env_at HE_.out (bw HB)) A4.out).mono ?_); rintro e w104 ⟨rfl, hb⟩; refine ⟨_, rfl, ?_⟩; replace BK702 := Aside0.mk (bb BK702 hb); replace HB := Aside0.mk (below_step (bw HB) hb); (try clear hb); (try clear hb2); (try clear hk); (try clear hi)))
  go_ret
  exact ⟨by first | rfl | (simp [errW_none, errW_some] <;> rfl) | (simp [*, errW_none, errW_some] <;> rfl), bw HB⟩
end Go.Proofs.YtckbmniiecbalaaGreatDoor.PT
