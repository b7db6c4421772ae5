-- written by a program of this session out of the kit's print (its words and its form)
import Derived.Test.YtckbmniiecbalaaGreatDoorPTgC
import Derived.Test.YtckbmniiecbalaaGreatDoorPTgSa
import Derived.Test.YtckbmniiecbalaaGreatDoorPTgTa
import Derived.Test.YtckbmniiecbalaaGreatDoorPTgTc
import Derived.Test.YtckbmniiecbalaaGreatDoorPTgTd
import Derived.Test.YtckbmniiecbalaaGreatDoorPTgTi
import Derived.Test.YtckbmniiecbalaaGreatDoorPTsq
import Derived.Test.YtckbmniiecbalaaGreatDoorPTx0
namespace Go.Proofs.YtckbmniiecbalaaGreatDoor.PT
open Go.RowKit Go.Proofs.YtckbmniiecbalaaGreatDoorW.PrintWords Go.Proofs.YtckbmniiecbalaaGreatDoorW.PrintLast Go.Proofs.YtckbmniiecbalaaGreatDoorW.PrintMore
attribute [local go_sem] max2_int min2_int max_two min_two max_three min_three max_four min_four   -- for this text's walks alone
set_option linter.unusedVariables false
set_option linter.unusedSimpArgs false

/-! ### strings_Trim: function 12 -/
def strings_Trim.f (a0 : ByteArray) (a1 : ByteArray) : Option (ByteArray) := if asciiB a1 = true ∧ a0.size ≤ 9223372036854775807 then some ⟨(Lib.trimS a0.data.toList a1.data.toList).toArray⟩ else none
theorem strings_Trim.calls (a0 : ByteArray) (a1 : ByteArray) (r : ByteArray) (w : World) (h : strings_Trim.f a0 a1 = some r) :
  Calls Tryz.prog 12 #[.string a0, .string a1] w fun e w' => e = .returned (.string r) ∧ Below w.heap.size w w' := by
 unfold strings_Trim.f at h
 by_cases hc : asciiB a1 = true ∧ a0.size ≤ 9223372036854775807
 ·rw [if_pos hc] at h; cases h
  exact Go.Proofs.Any.strings_Trim_laid Go.Proofs.Tryz.lays160 (by kernel_rfl) a0 a1 w hc.2 (asciiB_is hc.1).2 (asciiB_is hc.1).1
 ·rw [if_neg hc] at h; cases h

/-! ### environlaw03_TextsWide: function 3 -/
mutual
def environlaw03_TextsWide.l0 : Nat → List ByteArray → Int → Int → Int → Int → Int → Option (Bool)
 | 0, _, _, _, _, _, _ => none
 | k + 1, x29, x30, x31, x318000, x318001, x318002 => if x31 < x30 then (if 0 ≤ x31 then (if x31 < (x29.length : Int) then ((strings_Contains.f (rdOf ByteArray.empty x29 x31) (⟨#[42]⟩ : ByteArray)).bind fun t326 => (if t326 = true then ((strings_Trim.f (rdOf ByteArray.empty x29 x31) (⟨#[42]⟩ : ByteArray)).bind fun t327 => (if t327.toList = ([] : List UInt8) then (if ((rdOf ByteArray.empty x29 x31).size : Int) = 1 then (environlaw03_TextsWide.j1 k x29 x30 x31 false x318000 x318001 x318002) else (if ((rdOf ByteArray.empty x29 x31).size : Int) = x318000 then (environlaw03_TextsWide.j1 k x29 x30 x31 false x318000 x318001 x318002) else (environlaw03_TextsWide.j1 k x29 x30 x31 (((rdOf ByteArray.empty x29 x31).size : Int) != (wrap64 (-x318000))) x318000 x318001 x318002))) else (environlaw03_TextsWide.j1 k x29 x30 x31 true x318000 x318001 x318002))) else (if x318000 = 0 then (if (rdOf ByteArray.empty x29 x31).toList = ([] : List UInt8) then (some false) else (if 0 < ((rdOf ByteArray.empty x29 x31).size : Int) then (if (bt (rdOf ByteArray.empty x29 x31) 0) = 32 then (some false) else (environlaw03_TextsWide.l0 k x29 x30 (wrap64 (x31 + 1)) x318000 x318001 x318002)) else (none))) else (if ((rdOf ByteArray.empty x29 x31).size : Int) = x318000 then (if (rdOf ByteArray.empty x29 x31).toList = ([] : List UInt8) then (some false) else (environlaw03_TextsWide.l0 k x29 x30 (wrap64 (x31 + 1)) x318000 x318001 x318002)) else (if ((rdOf ByteArray.empty x29 x31).size : Int) = (wrap64 (-x318000)) then (if (rdOf ByteArray.empty x29 x31).toList = ([] : List UInt8) then (some false) else (environlaw03_TextsWide.l0 k x29 x30 (wrap64 (x31 + 1)) x318000 x318001 x318002)) else (some false)))))) else (none)) else (none)) else (some true)
def environlaw03_TextsWide.j1 : Nat → List ByteArray → Int → Int → Bool → Int → Int → Int → Option (Bool)
 | 0, _, _, _, _, _, _, _ => none
 | k + 1, x29, x30, x31, x59, x318000, x318001, x318002 => if x59 = true then (some false) else (environlaw03_TextsWide.l0 k x29 x30 (wrap64 (x31 + 1)) x318000 x318001 x318002)
end
def environlaw03_TextsWide.f (k : Nat) (a0 : Int) (a1_0 : Int) (a1_1 : Int) (a2_0 : Int) (a2_1 : Int) (a2_2 : Int) : Option (Bool) := (environlaw03_awake.f k).bind fun t318 => (if t318 = true then ((texts_Whole.f a0 a2_0).bind fun t319 => ((texts_Fixed.f k a1_0 a1_1 a2_0 a2_1).bind fun t320 => ((texts_Float.f k a1_0 a1_1 a2_0 a2_1 a2_2).bind fun t321 => ((some (([t319, t320, t321] : List ByteArray) : List ByteArray)).bind fun y322 => (environlaw03_TextsWide.l0 k y322 (y322.length : Int) 0 a2_0 a2_1 a2_2))))) else (some false))
theorem environlaw03_TextsWide.mono_l : ∀ k, (∀ y0 y1 y2 y3 y4 y5, LeO (environlaw03_TextsWide.l0 k y0 y1 y2 y3 y4 y5) (environlaw03_TextsWide.l0 (k + 1) y0 y1 y2 y3 y4 y5)) ∧ (∀ y0 y1 y2 y3 y4 y5 y6, LeO (environlaw03_TextsWide.j1 k y0 y1 y2 y3 y4 y5 y6) (environlaw03_TextsWide.j1 (k + 1) y0 y1 y2 y3 y4 y5 y6))
 | 0 => ⟨fun _ _ _ _ _ _ r h => by simp [environlaw03_TextsWide.l0] at h, fun _ _ _ _ _ _ _ r h => by simp [environlaw03_TextsWide.j1] at h⟩
 | k + 1 => by
  obtain ⟨ih0, ih1⟩ := environlaw03_TextsWide.mono_l k
  refine ⟨?_, ?_⟩
  ·intro y0 y1 y2 y3 y4 y5
   unfold environlaw03_TextsWide.l0
   repeat' first
   | (with_reducible exact ih0 _ _ _ _ _ _)
   | (with_reducible exact ih1 _ _ _ _ _ _ _)
   | (with_reducible exact environlaw03_awake.mono _)
   | (with_reducible exact texts_Fixed.mono _ _ _ _ _)
   | (with_reducible exact texts_Float.mono _ _ _ _ _ _)
   | (with_reducible exact LeO.refl _)
   | (with_reducible exact LeO.none _)
   | (with_reducible refine LeO.ite ?_ ?_)
   | (with_reducible refine LeO.bind ?_ (fun _ => ?_))
   | exact ih0 _ _ _ _ _ _
   | exact ih1 _ _ _ _ _ _ _
   | exact environlaw03_awake.mono _
   | exact texts_Fixed.mono _ _ _ _ _
   | exact texts_Float.mono _ _ _ _ _ _
   | exact LeO.none _
   | refine LeO.ite ?_ ?_
   | refine LeO.bind ?_ (fun _ => ?_)
  ·intro y0 y1 y2 y3 y4 y5 y6
   unfold environlaw03_TextsWide.j1
   repeat' first
   | (with_reducible exact ih0 _ _ _ _ _ _)
   | (with_reducible exact ih1 _ _ _ _ _ _ _)
   | (with_reducible exact environlaw03_awake.mono _)
   | (with_reducible exact texts_Fixed.mono _ _ _ _ _)
   | (with_reducible exact texts_Float.mono _ _ _ _ _ _)
   | (with_reducible exact LeO.refl _)
   | (with_reducible exact LeO.none _)
   | (with_reducible refine LeO.ite ?_ ?_)
   | (with_reducible refine LeO.bind ?_ (fun _ => ?_))
   | exact ih0 _ _ _ _ _ _
   | exact ih1 _ _ _ _ _ _ _
   | exact environlaw03_awake.mono _
   | exact texts_Fixed.mono _ _ _ _ _
   | exact texts_Float.mono _ _ _ _ _ _
   | exact LeO.none _
   | refine LeO.ite ?_ ?_
   | refine LeO.bind ?_ (fun _ => ?_)
theorem environlaw03_TextsWide.mono : ∀ a0 a1 a2 a3 a4 a5 k, LeO (environlaw03_TextsWide.f k a0 a1 a2 a3 a4 a5) (environlaw03_TextsWide.f (k + 1) a0 a1 a2 a3 a4 a5) := by
 intro a0 a1 a2 a3 a4 a5 k
 obtain ⟨ih0, ih1⟩ := environlaw03_TextsWide.mono_l k
 unfold environlaw03_TextsWide.f
 repeat' first
   | (with_reducible exact ih0 _ _ _ _ _ _)
   | (with_reducible exact ih1 _ _ _ _ _ _ _)
   | (with_reducible exact environlaw03_awake.mono _)
   | (with_reducible exact texts_Fixed.mono _ _ _ _ _)
   | (with_reducible exact texts_Float.mono _ _ _ _ _ _)
   | (with_reducible exact LeO.refl _)
   | (with_reducible exact LeO.none _)
   | (with_reducible refine LeO.ite ?_ ?_)
   | (with_reducible refine LeO.bind ?_ (fun _ => ?_))
   | exact ih0 _ _ _ _ _ _
   | exact ih1 _ _ _ _ _ _ _
   | exact environlaw03_awake.mono _
   | exact texts_Fixed.mono _ _ _ _ _
   | exact texts_Float.mono _ _ _ _ _ _
   | exact LeO.none _
   | refine LeO.ite ?_ ?_
   | refine LeO.bind ?_ (fun _ => ?_)
def environlaw03_TextsWide.T3 : Bool × List (List Nat × List Nat) := (true, [([], []), ([], []), ([1], [1]), ([0, 2], [0, 2]), ([], []), ([], []), ([5], [5]), ([], []), ([7], [7]), ([4, 6, 8, 3], [4, 6, 8]), ([], []), ([], []), ([11], [11]), ([], []), ([13], [13]), ([], []), ([15], [15]), ([10, 12, 14, 16, 9], [10, 12, 14, 16]), ([3, 9, 17], [3, 9, 17]), ([18], [18]), ([], [])])
def environlaw03_TextsWide.B3 : List Nat := [0, 0, 2, 7, 0, 0, 32, 0, 128, 511, 0, 0, 2048, 0, 8192, 0, 32768, 131071, 262143, 524287, 0]
theorem environlaw03_TextsWide.tab3 : rtab .any (opsOf Tryz.f3 3) = environlaw03_TextsWide.T3 := by kernel_rfl
theorem environlaw03_TextsWide.bits3 : waitsOk environlaw03_TextsWide.T3.2 environlaw03_TextsWide.B3 = true := by kernel_rfl
set_option maxHeartbeats 8000000 in
set_option maxRecDepth 100000 in
theorem environlaw03_TextsWide.calls (k : Nat) (a0 : Int) (a1_0 : Int) (a1_1 : Int) (a2_0 : Int) (a2_1 : Int) (a2_2 : Int) (r : Bool) (w : World) (hE : Env w) (h : environlaw03_TextsWide.f k a0 a1_0 a1_1 a2_0 a2_1 a2_2 = some r) :
  Calls Tryz.prog 3 #[.int .i64 a0, .agg #[.int .i64 a1_0, .int .i64 a1_1], .agg #[.int .i64 a2_0, .int .i64 a2_1, .int .i64 a2_2]] w fun e w' => e = .returned (.bool r) ∧ Below w.heap.size w w' := by
 have HE_ := Aside0.mk hE
 clear hE
 have hu23 := Tryz.underlying23
 have hu25 := Tryz.underlying25
 have HB := Aside0.mk (Below.refl w.heap.size w)
 have H : ((environlaw03_awake.f k).bind fun t318 => (if t318 = true then ((texts_Whole.f a0 a2_0).bind fun t319 => ((texts_Fixed.f k a1_0 a1_1 a2_0 a2_1).bind fun t320 => ((texts_Float.f k a1_0 a1_1 a2_0 a2_1 a2_2).bind fun t321 => ((some (([t319, t320, t321] : List ByteArray) : List ByteArray)).bind fun y322 => (environlaw03_TextsWide.l0 k y322 (y322.length : Int) 0 a2_0 a2_1 a2_2))))) else (some false))) = some r := h
 clear h
 replace H := Option.bind_eq_some_iff.mp H
 obtain ⟨t318, A40, H⟩ := H
 replace H : (if t318 = true then ((texts_Whole.f a0 a2_0).bind fun t319 => ((texts_Fixed.f k a1_0 a1_1 a2_0 a2_1).bind fun t320 => ((texts_Float.f k a1_0 a1_1 a2_0 a2_1 a2_2).bind fun t321 => ((some (([t319, t320, t321] : List ByteArray) : List ByteArray)).bind fun y322 => (environlaw03_TextsWide.l0 k y322 (y322.length : Int) 0 a2_0 a2_1 a2_2))))) else (some false)) = some r := H
 have A4 := Aside0.mk A40
 clear A40
 by_cases c5 : t318 = true
 ·subst c5
  have H1 : ((texts_Whole.f a0 a2_0).bind fun t319 => ((texts_Fixed.f k a1_0 a1_1 a2_0 a2_1).bind fun t320 => ((texts_Float.f k a1_0 a1_1 a2_0 a2_1 a2_2).bind fun t321 => ((some (([t319, t320, t321] : List ByteArray) : List ByteArray)).bind fun y322 => (environlaw03_TextsWide.l0 k y322 (y322.length : Int) 0 a2_0 a2_1 a2_2))))) = some r := by rw [if_pos rfl] at H; exact H
  clear H
  have H := H1
  clear H1
  replace H := Option.bind_eq_some_iff.mp H
  obtain ⟨t319, A60, H⟩ := H
  replace H : ((texts_Fixed.f k a1_0 a1_1 a2_0 a2_1).bind fun t320 => ((texts_Float.f k a1_0 a1_1 a2_0 a2_1 a2_2).bind fun t321 => ((some (([t319, t320, t321] : List ByteArray) : List ByteArray)).bind fun y322 => (environlaw03_TextsWide.l0 k y322 (y322.length : Int) 0 a2_0 a2_1 a2_2)))) = some r := H
  have A6 := Aside0.mk A60
  clear A60
  replace H := Option.bind_eq_some_iff.mp H
  obtain ⟨t320, A70, H⟩ := H
  replace H : ((texts_Float.f k a1_0 a1_1 a2_0 a2_1 a2_2).bind fun t321 => ((some (([t319, t320, t321] : List ByteArray) : List ByteArray)).bind fun y322 => (environlaw03_TextsWide.l0 k y322 (y322.length : Int) 0 a2_0 a2_1 a2_2))) = some r := H
  have A7 := Aside0.mk A70
  clear A70
  replace H := Option.bind_eq_some_iff.mp H
  obtain ⟨t321, A80, H⟩ := H
  replace H : ((some (([t319, t320, t321] : List ByteArray) : List ByteArray)).bind fun y322 => (environlaw03_TextsWide.l0 k y322 (y322.length : Int) 0 a2_0 a2_1 a2_2)) = some r := H
  have A8 := Aside0.mk A80
  clear A80
  obtain ⟨y322, hy322⟩ : ∃ y_ : List ByteArray, y_ = (([t319, t320, t321] : List ByteArray)) := ⟨_, rfl⟩
  replace H : (environlaw03_TextsWide.l0 k y322 (y322.length : Int) 0 a2_0 a2_1 a2_2) = some r := by first | (rw [hy322]; with_reducible exact H) | (have H2_ := (Option.bind_some _ _).symm.trans H; rw [hy322]; with_reducible exact H2_) | (have H2_ := (Option.bind_some _ _).symm.trans H; with_reducible exact H2_) | with_reducible exact H | (rw [hy322]; exact H) | exact H
  have Ny322 := Aside0.mk hy322
  clear hy322
  have H' := Aside0.mk H
  clear H
  go_enter Tryz.func3, Tryz.ntmps3
  try go_wp2_with (first | ((with_reducible refine gate_dst (N := 4) rfl ?_); (try (refine gate_guard (by rfl) ?_; dsimp only)); refine box_event ?hg (N := 4) ?hd (cs := #[.int .i64 a1_0, .int .i64 a1_1]) (t := 23) ?hr ?_; (case hd => rfl); (case hg => rfl); (case hr => first | (go_simp; done) | (go_simp; rfl)); intro gb316 hg w9 hbox hb; have BK316 := Aside0.mk (hbox); have GW316 := Aside0.mk (bs HB hg : w.heap.size ≤ gb316); replace HB := Aside0.mk (below_step (bw HB) hb); clear hb hbox hg) | ((with_reducible refine gate_dst (N := 5) rfl ?_); (try (refine gate_guard (by rfl) ?_; dsimp only)); refine box_event ?hg (N := 5) ?hd (cs := #[.int .i64 a2_0, .int .i64 a2_1, .int .i64 a2_2]) (t := 25) ?hr ?_; (case hd => rfl); (case hg => rfl); (case hr => first | (go_simp; done) | (go_simp; rfl)); intro gb317 hg w10 hbox hb; have BK317 := Aside0.mk (hbox); have GW317 := Aside0.mk (bs HB hg : w.heap.size ≤ gb317); replace HB := Aside0.mk (below_step (bw HB) hb); have NB316_317 := Aside0.mk (nl BK316 hg); have NB317_316 := Aside0.mk (ng BK316 hg); replace BK316 := Aside0.mk (bb BK316 hb); clear hb hbox hg) | ((with_reducible refine gate_callee (f := 7) rfl ?_); refine goesL_ (some 9) rfl rfl Tryz.func7 (by kernel_rfl) rfl #[] rfl (by (try simp only [List.map_toArray, List.map_cons, List.map_nil]); first | done | rfl | (simp only [List.length_drop, List.length_take]; rfl)) ?_; (with_reducible refine (environlaw03_awake.calls k  true _ (env_at HE_.out (bw HB)) A4.out).mono ?_); rintro e w11 ⟨rfl, hb⟩; refine ⟨_, rfl, ?_⟩; replace BK316 := Aside0.mk (bb BK316 hb); replace BK317 := Aside0.mk (bb BK317 hb); replace HB := Aside0.mk (below_step (bw HB) hb); (try clear hb); (try clear hb2); (try clear hk); (try clear hi)))
  replace BK316 := Aside0.mk (blk_drew BK316.out)
  replace BK317 := Aside0.mk (blk_drew BK317.out)
  replace HB := Aside0.mk (below_drew1 HB.out)
  refine start_ (n := 21) (S := fun w' => w'.cell? ⟨gb317, 0, none⟩ = some (.int .i64 a2_0) ∧ w'.cell? ⟨gb317, 1, none⟩ = some (.int .i64 a2_1) ∧ w'.cell? ⟨gb317, 2, none⟩ = some (.int .i64 a2_2) ∧ w'.cell? ⟨gb316, 0, none⟩ = some (.int .i64 a1_0) ∧ w'.cell? ⟨gb316, 1, none⟩ = some (.int .i64 a1_1)) (ds := []) #[false, false, false, false, false, false, false, false, false, false, false, false, false, false, false, false, false, false, false, false, false] (by kernel_rfl) rfl rfl ⟨(blk_cell BK317.out 0).trans rfl, (blk_cell BK317.out 1).trans rfl, (blk_cell BK317.out 2).trans rfl, (blk_cell BK316.out 0).trans rfl, (blk_cell BK316.out 1).trans rfl⟩ (fun hHeld => ?_); refine with_tabW environlaw03_TextsWide.tab3 environlaw03_TextsWide.bits3 (fun HT_ HW_ => ?_)
  generalize w11.drew = w12 at BK316 BK317 HB hHeld ⊢
  refine pu 0 11 (bl 21 1) HT_ ?_
  refine pu 1 12 (bl 21 3) HT_ ?_
  refine pu 5 16 (bl 21 35) HT_ ?_
  refine pu 7 18 (bl 21 163) HT_ ?_
  refine pu 11 22 (bl 21 2211) HT_ ?_
  refine pu 13 24 (bl 21 10403) HT_ ?_
  refine pu 15 26 (bl 21 43171) HT_ ?_
  refine pu 20 31 (bl 21 1091747) HT_ ?_
  refine ta 2 13 (bl 21 1091751) HT_ HW_ hHeld ?_
  refine ta 4 15 (bl 21 1091767) HT_ HW_ hHeld ?_
  refine ta 6 17 (bl 21 1091831) HT_ HW_ hHeld ?_
  refine ta 8 19 (bl 21 1092087) HT_ HW_ hHeld ?_
  refine ta 10 21 (bl 21 1093111) HT_ HW_ hHeld ?_
  refine ta 12 23 (bl 21 1097207) HT_ HW_ hHeld ?_
  refine ta 14 25 (bl 21 1113591) HT_ HW_ hHeld ?_
  refine ta 16 27 (bl 21 1179127) HT_ HW_ hHeld ?_
  refine one_ (i := 3) (N := some 14) #[true, true, true, true, true, true, true, true, true, false, true, true, true, true, true, true, true, false, false, false, true] rfl rfl (one_of HT_.out (by kernel_rfl)) (by decide) (fun K hK => ?_)
  refine goes_ Tryz.func8 (by kernel_rfl) rfl #[.int .i64 a0, .int .i64 a2_0] (by rfl) rfl rfl (by (try simp only [List.map_toArray, List.map_cons, List.map_nil]); first | done | rfl | (simp only [List.length_drop, List.length_take]; rfl)) ?_
  with_reducible refine (texts_Whole.calls a0 a2_0 t319 _ (env_at HE_.out (bw HB)) A6.out).mono ?_
  rintro e w13 ⟨rfl, hb⟩
  refine ⟨_, rfl, ?_⟩
  replace BK316 := Aside0.mk (bb BK316 hb)
  replace BK317 := Aside0.mk (bb BK317 hb)
  replace HB := Aside0.mk (below_step (bw HB) hb)
  (try clear hb)
  (try clear hb2)
  (try clear hk)
  (try clear hi)
  refine hK.out _ _ ⟨(blk_cell BK317.out 0).trans rfl, (blk_cell BK317.out 1).trans rfl, (blk_cell BK317.out 2).trans rfl, (blk_cell BK316.out 0).trans rfl, (blk_cell BK316.out 1).trans rfl⟩ (fun hHeld => ?_)
  clear hK K
  refine norm_ (a' := ?_) ?_ ?_
  rotate_left
  ·show Act.put _ (some 14) _ = _
   simp only [sx, i64_w, i32_w]
   rfl
  refine one_ (i := 9) (N := some 20) #[true, true, true, true, true, true, true, true, true, true, true, true, true, true, true, true, true, false, false, false, true] rfl rfl (one_of HT_.out (by kernel_rfl)) (by decide) (fun K hK => ?_)
  refine goes_ Tryz.func9 (by kernel_rfl) rfl #[.agg #[.int .i64 a1_0, .int .i64 a1_1], .int .i64 a2_0, .int .i64 a2_1] (by rfl) rfl rfl (by (try simp only [List.map_toArray, List.map_cons, List.map_nil]); first | done | rfl | (simp only [List.length_drop, List.length_take]; rfl)) ?_
  with_reducible refine (texts_Fixed.calls k a1_0 a1_1 a2_0 a2_1 t320 _ (env_at HE_.out (bw HB)) A7.out).mono ?_
  rintro e w14 ⟨rfl, hb⟩
  refine ⟨_, rfl, ?_⟩
  replace BK316 := Aside0.mk (bb BK316 hb)
  replace BK317 := Aside0.mk (bb BK317 hb)
  replace HB := Aside0.mk (below_step (bw HB) hb)
  (try clear hb)
  (try clear hb2)
  (try clear hk)
  (try clear hi)
  refine hK.out _ _ ⟨(blk_cell BK317.out 0).trans rfl, (blk_cell BK317.out 1).trans rfl, (blk_cell BK317.out 2).trans rfl, (blk_cell BK316.out 0).trans rfl, (blk_cell BK316.out 1).trans rfl⟩ (fun hHeld => ?_)
  clear hK K
  refine norm_ (a' := ?_) ?_ ?_
  rotate_left
  ·show Act.put _ (some 20) _ = _
   simp only [sx, i64_w, i32_w]
   rfl
  refine one_ (i := 17) (N := some 28) #[true, true, true, true, true, true, true, true, true, true, true, true, true, true, true, true, true, true, false, false, true] rfl rfl (one_of HT_.out (by kernel_rfl)) (by decide) (fun K hK => ?_)
  refine goes_ Tryz.func10 (by kernel_rfl) rfl #[.agg #[.int .i64 a1_0, .int .i64 a1_1], .int .i64 a2_0, .int .i64 a2_1, .int .i64 a2_2] (by rfl) rfl rfl (by (try simp only [List.map_toArray, List.map_cons, List.map_nil]); first | done | rfl | (simp only [List.length_drop, List.length_take]; rfl)) ?_
  with_reducible refine (texts_Float.calls k a1_0 a1_1 a2_0 a2_1 a2_2 t321 _ (env_at HE_.out (bw HB)) A8.out).mono ?_
  rintro e w15 ⟨rfl, hb⟩
  refine ⟨_, rfl, ?_⟩
  replace BK316 := Aside0.mk (bb BK316 hb)
  replace BK317 := Aside0.mk (bb BK317 hb)
  replace HB := Aside0.mk (below_step (bw HB) hb)
  (try clear hb)
  (try clear hb2)
  (try clear hk)
  (try clear hi)
  refine hK.out _ _ ⟨(blk_cell BK317.out 0).trans rfl, (blk_cell BK317.out 1).trans rfl, (blk_cell BK317.out 2).trans rfl, (blk_cell BK316.out 0).trans rfl, (blk_cell BK316.out 1).trans rfl⟩ (fun hHeld => ?_)
  clear hK K
  refine norm_ (a' := ?_) ?_ ?_
  rotate_left
  ·show Act.put _ (some 28) _ = _
   simp only [sx, i64_w, i32_w]
   rfl
  refine one_ (i := 18) (N := some 29) #[true, true, true, true, true, true, true, true, true, true, true, true, true, true, true, true, true, true, true, false, true] rfl rfl (one_of HT_.out (by kernel_rfl)) (by decide) (fun K hK => ?_)
  refine Kd.R_lit_step Kd.string _ 9 ?hg (N := 29) ?hd (xs := ([t319, t320, t321] : List ByteArray)) (inner := [.string t319, .string t320, .string t321]) (ok := fun _ => True) (okp := fun _ => True) ?hr ?hp (fun _ hk => hk) trivial (Below.refl _ _) (Nat.le_refl _) (by simp) ?_; (case hd => rfl); (case hg => rfl); (case hr => first | (go_simp; done) | (go_simp; rfl)); (case hp => exact (Reps.one (show Kd.M Kd.string _ _ _ t319 [.string t319] from rfl) (Reps.one (show Kd.M Kd.string _ _ _ t320 [.string t320] from rfl) (Reps.one (show Kd.M Kd.string _ _ _ t321 [.string t321] from rfl) (Reps.none _ _)))))
  intro v323 w16 ho17 hb hg_ hnew_
  clear hg_ hnew_
  (first | rw [← Ny322.out] at ho17 | (simp only [Int.reduceToNat] at ho17; rw [← Ny322.out] at ho17))
  have HO324 := Aside0.mk (Kd.R_lower ho17 (below_size (bw HB)))
  replace BK316 := Aside0.mk (bb BK316 hb)
  replace BK317 := Aside0.mk (bb BK317 hb)
  replace HB := Aside0.mk (below_step (bw HB) hb)
  clear hb ho17
  obtain ⟨Ao18, co18, eo18⟩ := Kd.R_slice HO324.out
  (first | subst eo18 | (injection eo18 with f1_ f2_ f3_; have f4_ := f1_.symm; have f5_ := f3_.symm; clear f1_ f2_ f3_; subst f4_; subst f5_))
  refine hK.out _ _ ⟨(blk_cell BK317.out 0).trans rfl, (blk_cell BK317.out 1).trans rfl, (blk_cell BK317.out 2).trans rfl, (blk_cell BK316.out 0).trans rfl, (blk_cell BK316.out 1).trans rfl⟩ (fun hHeld => ?_)
  clear hK K
  refine norm_ (a' := ?_) ?_ ?_
  rotate_left
  ·show Act.put _ (some 29) _ = _
   simp only [sx, i64_w, i32_w]
   rfl
  refine pu 19 30 (bl 21 2097151) HT_ ?_
  refine done_ (done_of HT_.out (by kernel_rfl)) ?_
  try go_wp2
  go_loopg [31] k (fun kq v31 w' => ∃ (x31_1 : Int), v31 = .int .i64 x31_1 ∧ Aside0 (environlaw03_TextsWide.l0 kq y322 (y322.length : Int) x31_1 a2_0 a2_1 a2_2 = some r) ∧ Aside0 (kq ≤ k) ∧ Aside0 (Kd.R Kd.string 9 w' w.heap.size (fun _ => True) (.slice Ao18 y322.length co18) y322) ∧ Aside0 (w'.heap[gb316]? = some (.cells #[.int .i64 a1_0, .int .i64 a1_1] 23 (0, 0))) ∧ Aside0 (w'.heap[gb317]? = some (.cells #[.int .i64 a2_0, .int .i64 a2_1, .int .i64 a2_2] 25 (0, 0))) ∧ Aside0 (Below w.heap.size w w'))
  case atStart => exact ⟨(0), (by first | rfl | (simp; done) | (simp [*]; done)), H', ⟨Nat.le_refl _⟩, ⟨by (with_reducible repeat (first | apply Kd.R_alloc | apply Kd.R_drewN | apply Kd.R_drew)); exact HO324.out⟩, ⟨by (with_reducible repeat (first | refine blk_drewN ?_ _ | refine blk_drew ?_ | refine blk_alloc ?_ _)); exact BK316.out⟩, ⟨by (with_reducible repeat (first | refine blk_drewN ?_ _ | refine blk_drew ?_ | refine blk_alloc ?_ _)); exact BK317.out⟩, ⟨bw HB⟩⟩
  case round =>
   clear H'
   try clear c1
   try clear p2
   try clear c3
   try clear c5
   try clear c7
   try clear c8
   try clear c9
   try clear c10
   obtain ⟨x31_1, rfl, HA, HK1, HO_29, BK316, BK317, HB⟩ := hrel
   cases gk with
   | zero => exact absurd HA.out (by simp [environlaw03_TextsWide.l0])
   | succ k1 =>
    have H := HA.out
    clear HA
    simp only [environlaw03_TextsWide.l0] at H
    by_cases c19 : x31_1 < (y322.length : Int)
    ·rw [if_pos c19] at H
     have c19b0 : decide (x31_1 < (y322.length : Int)) = true := decide_eq_true c19
     clear c19
     by_cases c20 : 0 ≤ x31_1
     ·rw [if_pos c20] at H
      have c20b0 : decide (0 ≤ x31_1) = true := decide_eq_true c20
      clear c20
      by_cases c21 : x31_1 < (y322.length : Int)
      ·rw [if_pos c21] at H
       have c21b0 : decide (x31_1 < (y322.length : Int)) = true := decide_eq_true c21
       clear c21
       replace H := Option.bind_eq_some_iff.mp H
       obtain ⟨t326, A220, H⟩ := H
       replace H : (if t326 = true then ((strings_Trim.f (rdOf ByteArray.empty y322 x31_1) (⟨#[42]⟩ : ByteArray)).bind fun t327 => (if t327.toList = ([] : List UInt8) then (if ((rdOf ByteArray.empty y322 x31_1).size : Int) = 1 then (environlaw03_TextsWide.j1 k1 y322 (y322.length : Int) x31_1 false a2_0 a2_1 a2_2) else (if ((rdOf ByteArray.empty y322 x31_1).size : Int) = a2_0 then (environlaw03_TextsWide.j1 k1 y322 (y322.length : Int) x31_1 false a2_0 a2_1 a2_2) else (environlaw03_TextsWide.j1 k1 y322 (y322.length : Int) x31_1 (((rdOf ByteArray.empty y322 x31_1).size : Int) != (wrap64 (-a2_0))) a2_0 a2_1 a2_2))) else (environlaw03_TextsWide.j1 k1 y322 (y322.length : Int) x31_1 true a2_0 a2_1 a2_2))) else (if a2_0 = 0 then (if (rdOf ByteArray.empty y322 x31_1).toList = ([] : List UInt8) then (some false) else (if 0 < ((rdOf ByteArray.empty y322 x31_1).size : Int) then (if (bt (rdOf ByteArray.empty y322 x31_1) 0) = 32 then (some false) else (environlaw03_TextsWide.l0 k1 y322 (y322.length : Int) (wrap64 (x31_1 + 1)) a2_0 a2_1 a2_2)) else (none))) else (if ((rdOf ByteArray.empty y322 x31_1).size : Int) = a2_0 then (if (rdOf ByteArray.empty y322 x31_1).toList = ([] : List UInt8) then (some false) else (environlaw03_TextsWide.l0 k1 y322 (y322.length : Int) (wrap64 (x31_1 + 1)) a2_0 a2_1 a2_2)) else (if ((rdOf ByteArray.empty y322 x31_1).size : Int) = (wrap64 (-a2_0)) then (if (rdOf ByteArray.empty y322 x31_1).toList = ([] : List UInt8) then (some false) else (environlaw03_TextsWide.l0 k1 y322 (y322.length : Int) (wrap64 (x31_1 + 1)) a2_0 a2_1 a2_2)) else (some false))))) = some r := H
       have A22 := Aside0.mk A220
       clear A220
       by_cases c23 : t326 = true
       ·subst c23
        have H1 : ((strings_Trim.f (rdOf ByteArray.empty y322 x31_1) (⟨#[42]⟩ : ByteArray)).bind fun t327 => (if t327.toList = ([] : List UInt8) then (if ((rdOf ByteArray.empty y322 x31_1).size : Int) = 1 then (environlaw03_TextsWide.j1 k1 y322 (y322.length : Int) x31_1 false a2_0 a2_1 a2_2) else (if ((rdOf ByteArray.empty y322 x31_1).size : Int) = a2_0 then (environlaw03_TextsWide.j1 k1 y322 (y322.length : Int) x31_1 false a2_0 a2_1 a2_2) else (environlaw03_TextsWide.j1 k1 y322 (y322.length : Int) x31_1 (((rdOf ByteArray.empty y322 x31_1).size : Int) != (wrap64 (-a2_0))) a2_0 a2_1 a2_2))) else (environlaw03_TextsWide.j1 k1 y322 (y322.length : Int) x31_1 true a2_0 a2_1 a2_2))) = some r := by rw [if_pos rfl] at H; exact H
        clear H
        have H := H1
        clear H1
        have HC24 := Aside0.mk H
        clear H
        have p325 : 0 ≤ (x31_1 : Int) := of_decide_eq_true (by first | (with_reducible assumption) | assumption)
        have q325 : x31_1 < (y322.length : Int) := of_decide_eq_true (by first | (with_reducible assumption) | assumption)
        obtain ⟨ad325, e325, hx325_0⟩ := Kd.at_string (Kd.R_reads' HO_29.out).2.2 x31_1 p325 q325
        cases e325
        replace p325 := eq_true p325
        replace q325 := eq_true q325
        go_upto_region 7 with (first | ((with_reducible refine gate_callee (f := 11) rfl ?_); refine goesL_ (some 36) rfl rfl Tryz.func11 (by kernel_rfl) rfl #[.string (rdOf ByteArray.empty y322 x31_1), .string (⟨#[42]⟩ : ByteArray)] rfl (by (try simp only [List.map_toArray, List.map_cons, List.map_nil]); first | done | rfl | (simp only [List.length_drop, List.length_take]; rfl)) ?_; (with_reducible refine (strings_Contains.calls (rdOf ByteArray.empty y322 x31_1) (⟨#[42]⟩ : ByteArray) true _ A22.out).mono ?_); rintro e w' ⟨rfl, ⟨nd, rfl⟩⟩; refine ⟨_, rfl, ?_⟩))
        (try simp only [sx])
        go_cut [59] (fun v59 wc => ∃ (kq : Nat) (x59_23 : Bool), v59 = .bool x59_23 ∧ Aside0 (environlaw03_TextsWide.j1 kq y322 (y322.length : Int) x31_1 x59_23 a2_0 a2_1 a2_2 = some r) ∧ Aside0 (kq ≤ k1) ∧ Aside0 (Kd.R Kd.string 9 wc w.heap.size (fun _ => True) (.slice (some ad325) y322.length co18) y322) ∧ Aside0 (wc.heap[gb316]? = some (.cells #[.int .i64 a1_0, .int .i64 a1_1] 23 (0, 0))) ∧ Aside0 (wc.heap[gb317]? = some (.cells #[.int .i64 a2_0, .int .i64 a2_1, .int .i64 a2_2] 25 (0, 0))) ∧ Aside0 (Below w.heap.size w wc))
        case first =>
         have H := HC24.out
         clear HC24
         replace H := Option.bind_eq_some_iff.mp H
         obtain ⟨t327, A250, H⟩ := H
         replace H : (if t327.toList = ([] : List UInt8) then (if ((rdOf ByteArray.empty y322 x31_1).size : Int) = 1 then (environlaw03_TextsWide.j1 k1 y322 (y322.length : Int) x31_1 false a2_0 a2_1 a2_2) else (if ((rdOf ByteArray.empty y322 x31_1).size : Int) = a2_0 then (environlaw03_TextsWide.j1 k1 y322 (y322.length : Int) x31_1 false a2_0 a2_1 a2_2) else (environlaw03_TextsWide.j1 k1 y322 (y322.length : Int) x31_1 (((rdOf ByteArray.empty y322 x31_1).size : Int) != (wrap64 (-a2_0))) a2_0 a2_1 a2_2))) else (environlaw03_TextsWide.j1 k1 y322 (y322.length : Int) x31_1 true a2_0 a2_1 a2_2)) = some r := H
         have A25 := Aside0.mk A250
         clear A250
         by_cases c26 : t327.toList = ([] : List UInt8)
         ·rw [if_pos c26] at H
          have c26b0 : (t327.toList == ([] : List UInt8)) = true := beq_iff_eq.mpr c26
          have c26b1 : (t327.toList != ([] : List UInt8)) = false := bne_eq_false_iff_eq.mpr c26
          clear c26
          (first | rw [c26b0] | (simp only [i64_w, i32_w]; rw [c26b0]) | skip)
          by_cases c27 : ((rdOf ByteArray.empty y322 x31_1).size : Int) = 1
          ·rw [if_pos c27] at H
           have c27b0 : (((rdOf ByteArray.empty y322 x31_1).size : Int) == 1) = true := beq_iff_eq.mpr c27
           have c27b1 : (((rdOf ByteArray.empty y322 x31_1).size : Int) != 1) = false := bne_eq_false_iff_eq.mpr c27
           clear c27
           have H' := Aside0.mk H
           clear H
           go_wp2_with (first | ((with_reducible refine gate_callee (f := 12) rfl ?_); refine goesL_ (some 38) rfl rfl Tryz.func12 (by kernel_rfl) rfl #[.string (rdOf ByteArray.empty y322 x31_1), .string (⟨#[42]⟩ : ByteArray)] rfl (by (try simp only [List.map_toArray, List.map_cons, List.map_nil]); first | done | rfl | (simp only [List.length_drop, List.length_take]; rfl)) ?_; (with_reducible refine (strings_Trim.calls (rdOf ByteArray.empty y322 x31_1) (⟨#[42]⟩ : ByteArray) t327 _ A25.out).mono ?_); rintro e w28 ⟨rfl, hb⟩; refine ⟨_, rfl, ?_⟩; replace HO_29 := Aside0.mk (Kd.R_below (by (with_reducible repeat (first | apply Kd.R_alloc | apply Kd.R_drewN | apply Kd.R_drew)); exact HO_29.out) hb); replace BK316 := Aside0.mk (bb BK316 hb); replace BK317 := Aside0.mk (bb BK317 hb); replace HB := Aside0.mk (below_step (bw HB) hb); (try clear hb); (try clear hb2); (try clear hk); (try clear hi)))
           go_meet
           case rel => exact ⟨_, (false), (by first | rfl | (simp; done) | (simp [*]; done)), H', ⟨by have := HK1.out; first | omega | exact Nat.le_refl _⟩, ⟨by (with_reducible repeat (first | apply Kd.R_alloc | apply Kd.R_drewN | apply Kd.R_drew)); exact HO_29.out⟩, ⟨by (with_reducible repeat (first | refine blk_drewN ?_ _ | refine blk_drew ?_ | refine blk_alloc ?_ _)); exact BK316.out⟩, ⟨by (with_reducible repeat (first | refine blk_drewN ?_ _ | refine blk_drew ?_ | refine blk_alloc ?_ _)); exact BK317.out⟩, ⟨bw HB⟩⟩
          ·rw [if_neg c27] at H
           have c27b0 : (((rdOf ByteArray.empty y322 x31_1).size : Int) == 1) = false := beq_eq_false_iff_ne.mpr c27
           have c27b1 : (((rdOf ByteArray.empty y322 x31_1).size : Int) != 1) = true := bne_iff_ne.mpr c27
           by_cases c29 : ((rdOf ByteArray.empty y322 x31_1).size : Int) = a2_0
           ·rw [if_pos c29] at H
            have c29b0 : (((rdOf ByteArray.empty y322 x31_1).size : Int) == a2_0) = true := beq_iff_eq.mpr c29
            have c29b1 : (((rdOf ByteArray.empty y322 x31_1).size : Int) != a2_0) = false := bne_eq_false_iff_eq.mpr c29
            clear c29
            have H' := Aside0.mk H
            clear H
            go_wp2_with (first | ((with_reducible refine gate_callee (f := 12) rfl ?_); refine goesL_ (some 38) rfl rfl Tryz.func12 (by kernel_rfl) rfl #[.string (rdOf ByteArray.empty y322 x31_1), .string (⟨#[42]⟩ : ByteArray)] rfl (by (try simp only [List.map_toArray, List.map_cons, List.map_nil]); first | done | rfl | (simp only [List.length_drop, List.length_take]; rfl)) ?_; (with_reducible refine (strings_Trim.calls (rdOf ByteArray.empty y322 x31_1) (⟨#[42]⟩ : ByteArray) t327 _ A25.out).mono ?_); rintro e w30 ⟨rfl, hb⟩; refine ⟨_, rfl, ?_⟩; replace HO_29 := Aside0.mk (Kd.R_below (by (with_reducible repeat (first | apply Kd.R_alloc | apply Kd.R_drewN | apply Kd.R_drew)); exact HO_29.out) hb); replace BK316 := Aside0.mk (bb BK316 hb); replace BK317 := Aside0.mk (bb BK317 hb); replace HB := Aside0.mk (below_step (bw HB) hb); (try clear hb); (try clear hb2); (try clear hk); (try clear hi); have hnb31 := NB317_316.out; have hnc31 := NB316_317.out; have hcz32_0 := bc BK317 0 rfl; have hcz32_1 := bc BK317 1 rfl; have hcz32_2 := bc BK317 2 rfl; have hfz32_0 := blk_frozen BK317.out 0; have hfz32_1 := blk_frozen BK317.out 1; have hfz32_2 := blk_frozen BK317.out 2))
            go_meet
            case rel => exact ⟨_, (false), (by first | rfl | (simp; done) | (simp [*]; done)), H', ⟨by have := HK1.out; first | omega | exact Nat.le_refl _⟩, ⟨by (with_reducible repeat (first | apply Kd.R_alloc | apply Kd.R_drewN | apply Kd.R_drew)); exact HO_29.out⟩, ⟨by (with_reducible repeat (first | refine blk_drewN ?_ _ | refine blk_drew ?_ | refine blk_alloc ?_ _)); exact BK316.out⟩, ⟨by (with_reducible repeat (first | refine blk_drewN ?_ _ | refine blk_drew ?_ | refine blk_alloc ?_ _)); exact BK317.out⟩, ⟨bw HB⟩⟩
           ·rw [if_neg c29] at H
            have c29b0 : (((rdOf ByteArray.empty y322 x31_1).size : Int) == a2_0) = false := beq_eq_false_iff_ne.mpr c29
            have c29b1 : (((rdOf ByteArray.empty y322 x31_1).size : Int) != a2_0) = true := bne_iff_ne.mpr c29
            have H' := Aside0.mk H
            clear H
            go_wp2_with (first | ((with_reducible refine gate_callee (f := 12) rfl ?_); refine goesL_ (some 38) rfl rfl Tryz.func12 (by kernel_rfl) rfl #[.string (rdOf ByteArray.empty y322 x31_1), .string (⟨#[42]⟩ : ByteArray)] rfl (by (try simp only [List.map_toArray, List.map_cons, List.map_nil]); first | done | rfl | (simp only [List.length_drop, List.length_take]; rfl)) ?_; (with_reducible refine (strings_Trim.calls (rdOf ByteArray.empty y322 x31_1) (⟨#[42]⟩ : ByteArray) t327 _ A25.out).mono ?_); rintro e w33 ⟨rfl, hb⟩; refine ⟨_, rfl, ?_⟩; replace HO_29 := Aside0.mk (Kd.R_below (by (with_reducible repeat (first | apply Kd.R_alloc | apply Kd.R_drewN | apply Kd.R_drew)); exact HO_29.out) hb); replace BK316 := Aside0.mk (bb BK316 hb); replace BK317 := Aside0.mk (bb BK317 hb); replace HB := Aside0.mk (below_step (bw HB) hb); (try clear hb); (try clear hb2); (try clear hk); (try clear hi); have hnb34 := NB317_316.out; have hnc34 := NB316_317.out; have hcz35_0 := bc BK317 0 rfl; have hcz35_1 := bc BK317 1 rfl; have hcz35_2 := bc BK317 2 rfl; have hfz35_0 := blk_frozen BK317.out 0; have hfz35_1 := blk_frozen BK317.out 1; have hfz35_2 := blk_frozen BK317.out 2))
            go_meet
            case rel => exact ⟨_, ((((rdOf ByteArray.empty y322 x31_1).size : Int) != (wrap64 (-a2_0)))), (by first | rfl | (simp; done) | (simp [*]; done)), H', ⟨by have := HK1.out; first | omega | exact Nat.le_refl _⟩, ⟨by (with_reducible repeat (first | apply Kd.R_alloc | apply Kd.R_drewN | apply Kd.R_drew)); exact HO_29.out⟩, ⟨by (with_reducible repeat (first | refine blk_drewN ?_ _ | refine blk_drew ?_ | refine blk_alloc ?_ _)); exact BK316.out⟩, ⟨by (with_reducible repeat (first | refine blk_drewN ?_ _ | refine blk_drew ?_ | refine blk_alloc ?_ _)); exact BK317.out⟩, ⟨bw HB⟩⟩
         ·rw [if_neg c26] at H
          have c26b0 : (t327.toList == ([] : List UInt8)) = false := beq_eq_false_iff_ne.mpr c26
          have c26b1 : (t327.toList != ([] : List UInt8)) = true := bne_iff_ne.mpr c26
          (first | rw [c26b0] | (simp only [i64_w, i32_w]; rw [c26b0]) | skip)
          have H' := Aside0.mk H
          clear H
          go_wp2_with (first | ((with_reducible refine gate_callee (f := 12) rfl ?_); refine goesL_ (some 38) rfl rfl Tryz.func12 (by kernel_rfl) rfl #[.string (rdOf ByteArray.empty y322 x31_1), .string (⟨#[42]⟩ : ByteArray)] rfl (by (try simp only [List.map_toArray, List.map_cons, List.map_nil]); first | done | rfl | (simp only [List.length_drop, List.length_take]; rfl)) ?_; (with_reducible refine (strings_Trim.calls (rdOf ByteArray.empty y322 x31_1) (⟨#[42]⟩ : ByteArray) t327 _ A25.out).mono ?_); rintro e w36 ⟨rfl, hb⟩; refine ⟨_, rfl, ?_⟩; replace HO_29 := Aside0.mk (Kd.R_below (by (with_reducible repeat (first | apply Kd.R_alloc | apply Kd.R_drewN | apply Kd.R_drew)); exact HO_29.out) hb); replace BK316 := Aside0.mk (bb BK316 hb); replace BK317 := Aside0.mk (bb BK317 hb); replace HB := Aside0.mk (below_step (bw HB) hb); (try clear hb); (try clear hb2); (try clear hk); (try clear hi)))
          go_meet
          case rel => exact ⟨_, (true), (by first | rfl | (simp; done) | (simp [*]; done)), H', ⟨by have := HK1.out; first | omega | exact Nat.le_refl _⟩, ⟨by (with_reducible repeat (first | apply Kd.R_alloc | apply Kd.R_drewN | apply Kd.R_drew)); exact HO_29.out⟩, ⟨by (with_reducible repeat (first | refine blk_drewN ?_ _ | refine blk_drew ?_ | refine blk_alloc ?_ _)); exact BK316.out⟩, ⟨by (with_reducible repeat (first | refine blk_drewN ?_ _ | refine blk_drew ?_ | refine blk_alloc ?_ _)); exact BK317.out⟩, ⟨bw HB⟩⟩
        case rest =>
         clear HC24
         try clear c1
         try clear c2
         try clear p2
         try clear c3
         try clear p3
         try clear q3
         try clear hx3
         try clear c5
         try clear p6
         try clear c7
         try clear c8
         try clear c9
         try clear c10
         try clear c11
         try clear c12
         try clear c19
         try clear c19b0
         try clear c20
         try clear c20b0
         try clear c21
         try clear c21b0
         try clear c23
         try clear c26
         try clear c26b0
         try clear c26b1
         try clear c27
         try clear c27b0
         try clear c27b1
         try clear c29
         try clear c29b0
         try clear c29b1
         try clear c31
         try clear p32
         try clear q32
         try clear hx32
         try clear c34
         try clear hcz32_0
         try clear hcz32_1
         try clear hcz32_2
         try clear hcz35_0
         try clear hcz35_1
         try clear hcz35_2
         try clear hfz32_0
         try clear hfz32_1
         try clear hfz32_2
         try clear hfz35_0
         try clear hfz35_1
         try clear hfz35_2
         try clear hx325_0
         try clear p2
         try clear p325
         try clear q325
         obtain ⟨kq, x59_23, rfl, HA, HJ23, HO_29, BK316, BK317, HB⟩ := hcut
         cases kq with
         | zero => exact absurd HA.out (by simp [environlaw03_TextsWide.j1])
         | succ kj23 =>
          have H := HA.out
          clear HA
          simp only [environlaw03_TextsWide.j1] at H
          by_cases c37 : x59_23 = true
          ·subst c37
           have H1 : (some false) = some r := by rw [if_pos rfl] at H; exact H
           clear H
           have H := H1
           clear H1
           obtain rfl := Option.some.inj H
           go_wp2
           go_ret
           exact ⟨by first | rfl | (simp [errW_none, errW_some] <;> rfl) | (simp [*, errW_none, errW_some] <;> rfl), bw HB⟩
          ·replace c37 := Bool.eq_false_iff.mpr c37
           subst c37
           have H1 : (environlaw03_TextsWide.l0 kj23 y322 (y322.length : Int) (wrap64 (x31_1 + 1)) a2_0 a2_1 a2_2) = some r := by rw [if_neg (show ¬ (false = true) by decide)] at H; exact H
           clear H
           have H := H1
           clear H1
           have H' := Aside0.mk H
           clear H
           go_wp2
           go_roundg kj23
           case measure => have := HK1.out; have := HJ23.out; omega
           case rel => exact ⟨(wrap64 (x31_1 + 1)), (by first | rfl | (simp; done) | (simp [*]; done)), H', ⟨by have := HK1.out; have := HJ23.out; omega⟩, ⟨by (with_reducible repeat (first | apply Kd.R_alloc | apply Kd.R_drewN | apply Kd.R_drew)); exact HO_29.out⟩, ⟨by (with_reducible repeat (first | refine blk_drewN ?_ _ | refine blk_drew ?_ | refine blk_alloc ?_ _)); exact BK316.out⟩, ⟨by (with_reducible repeat (first | refine blk_drewN ?_ _ | refine blk_drew ?_ | refine blk_alloc ?_ _)); exact BK317.out⟩, ⟨bw HB⟩⟩
       ·replace c23 := Bool.eq_false_iff.mpr c23
        subst c23
        have H1 : (if a2_0 = 0 then (if (rdOf ByteArray.empty y322 x31_1).toList = ([] : List UInt8) then (some false) else (if 0 < ((rdOf ByteArray.empty y322 x31_1).size : Int) then (if (bt (rdOf ByteArray.empty y322 x31_1) 0) = 32 then (some false) else (environlaw03_TextsWide.l0 k1 y322 (y322.length : Int) (wrap64 (x31_1 + 1)) a2_0 a2_1 a2_2)) else (none))) else (if ((rdOf ByteArray.empty y322 x31_1).size : Int) = a2_0 then (if (rdOf ByteArray.empty y322 x31_1).toList = ([] : List UInt8) then (some false) else (environlaw03_TextsWide.l0 k1 y322 (y322.length : Int) (wrap64 (x31_1 + 1)) a2_0 a2_1 a2_2)) else (if ((rdOf ByteArray.empty y322 x31_1).size : Int) = (wrap64 (-a2_0)) then (if (rdOf ByteArray.empty y322 x31_1).toList = ([] : List UInt8) then (some false) else (environlaw03_TextsWide.l0 k1 y322 (y322.length : Int) (wrap64 (x31_1 + 1)) a2_0 a2_1 a2_2)) else (some false)))) = some r := by rw [if_neg (show ¬ (false = true) by decide)] at H; exact H
        clear H
        have H := H1
        clear H1
        by_cases c38 : a2_0 = 0
        ·rw [if_pos c38] at H
         have c38b0 : (a2_0 == 0) = true := beq_iff_eq.mpr c38
         have c38b1 : (a2_0 != 0) = false := bne_eq_false_iff_eq.mpr c38
         clear c38
         by_cases c39 : (rdOf ByteArray.empty y322 x31_1).toList = ([] : List UInt8)
         ·rw [if_pos c39] at H
          have c39b0 : ((rdOf ByteArray.empty y322 x31_1).toList == ([] : List UInt8)) = true := beq_iff_eq.mpr c39
          have c39b1 : ((rdOf ByteArray.empty y322 x31_1).toList != ([] : List UInt8)) = false := bne_eq_false_iff_eq.mpr c39
          clear c39
          obtain rfl := Option.some.inj H
          have p325 : 0 ≤ (x31_1 : Int) := of_decide_eq_true (by first | (with_reducible assumption) | assumption)
          have q325 : x31_1 < (y322.length : Int) := of_decide_eq_true (by first | (with_reducible assumption) | assumption)
          obtain ⟨ad325, e325, hx325_0⟩ := Kd.at_string (Kd.R_reads' HO_29.out).2.2 x31_1 p325 q325
          cases e325
          replace p325 := eq_true p325
          replace q325 := eq_true q325
          go_wp2_with (first | ((with_reducible refine gate_callee (f := 11) rfl ?_); refine goesL_ (some 36) rfl rfl Tryz.func11 (by kernel_rfl) rfl #[.string (rdOf ByteArray.empty y322 x31_1), .string (⟨#[42]⟩ : ByteArray)] rfl (by (try simp only [List.map_toArray, List.map_cons, List.map_nil]); first | done | rfl | (simp only [List.length_drop, List.length_take]; rfl)) ?_; (with_reducible refine (strings_Contains.calls (rdOf ByteArray.empty y322 x31_1) (⟨#[42]⟩ : ByteArray) false _ A22.out).mono ?_); rintro e w' ⟨rfl, ⟨nd, rfl⟩⟩; refine ⟨_, rfl, ?_⟩; have hnb40 := NB317_316.out; have hnc40 := NB316_317.out; have hcz41_0 : wr.cell? ⟨gb317, 0, none⟩ = some (.int .i64 a2_0) := (blk_cell BK317.out 0).trans rfl; have hcz41_1 : wr.cell? ⟨gb317, 1, none⟩ = some (.int .i64 a2_1) := (blk_cell BK317.out 1).trans rfl; have hcz41_2 : wr.cell? ⟨gb317, 2, none⟩ = some (.int .i64 a2_2) := (blk_cell BK317.out 2).trans rfl; have hfz41_0 := blk_frozen BK317.out 0; have hfz41_1 := blk_frozen BK317.out 1; have hfz41_2 := blk_frozen BK317.out 2))
          go_ret
          exact ⟨by first | rfl | (simp [errW_none, errW_some] <;> rfl) | (simp [*, errW_none, errW_some] <;> rfl), bw HB⟩
         ·rw [if_neg c39] at H
          have c39b0 : ((rdOf ByteArray.empty y322 x31_1).toList == ([] : List UInt8)) = false := beq_eq_false_iff_ne.mpr c39
          have c39b1 : ((rdOf ByteArray.empty y322 x31_1).toList != ([] : List UInt8)) = true := bne_iff_ne.mpr c39
          by_cases c42 : 0 < ((rdOf ByteArray.empty y322 x31_1).size : Int)
          ·rw [if_pos c42] at H
           have c42b0 : decide (0 < ((rdOf ByteArray.empty y322 x31_1).size : Int)) = true := decide_eq_true c42
           have c42b1 : decide (0 < (rdOf ByteArray.empty y322 x31_1).size) = true := decide_eq_true (by omega)
           clear c42
           by_cases c44 : (bt (rdOf ByteArray.empty y322 x31_1) 0) = 32
           ·rw [if_pos c44] at H
            have c44b0 : ((bt (rdOf ByteArray.empty y322 x31_1) 0) == 32) = true := beq_iff_eq.mpr c44
            have c44b1 : ((bt (rdOf ByteArray.empty y322 x31_1) 0) != 32) = false := bne_eq_false_iff_eq.mpr c44
            clear c44
            obtain rfl := Option.some.inj H
            have p325 : 0 ≤ (x31_1 : Int) := of_decide_eq_true (by first | (with_reducible assumption) | assumption)
            have q325 : x31_1 < (y322.length : Int) := of_decide_eq_true (by first | (with_reducible assumption) | assumption)
            obtain ⟨ad325, e325, hx325_0⟩ := Kd.at_string (Kd.R_reads' HO_29.out).2.2 x31_1 p325 q325
            cases e325
            replace p325 := eq_true p325
            replace q325 := eq_true q325
            go_wp2_with (first | ((with_reducible refine gate_callee (f := 11) rfl ?_); refine goesL_ (some 36) rfl rfl Tryz.func11 (by kernel_rfl) rfl #[.string (rdOf ByteArray.empty y322 x31_1), .string (⟨#[42]⟩ : ByteArray)] rfl (by (try simp only [List.map_toArray, List.map_cons, List.map_nil]); first | done | rfl | (simp only [List.length_drop, List.length_take]; rfl)) ?_; (with_reducible refine (strings_Contains.calls (rdOf ByteArray.empty y322 x31_1) (⟨#[42]⟩ : ByteArray) false _ A22.out).mono ?_); rintro e w' ⟨rfl, ⟨nd, rfl⟩⟩; refine ⟨_, rfl, ?_⟩; have hnb45 := NB317_316.out; have hnc45 := NB316_317.out; have hcz46_0 : wr.cell? ⟨gb317, 0, none⟩ = some (.int .i64 a2_0) := (blk_cell BK317.out 0).trans rfl; have hcz46_1 : wr.cell? ⟨gb317, 1, none⟩ = some (.int .i64 a2_1) := (blk_cell BK317.out 1).trans rfl; have hcz46_2 : wr.cell? ⟨gb317, 2, none⟩ = some (.int .i64 a2_2) := (blk_cell BK317.out 2).trans rfl; have hfz46_0 := blk_frozen BK317.out 0; have hfz46_1 := blk_frozen BK317.out 1; have hfz46_2 := blk_frozen BK317.out 2; have p43 : 0 ≤ (0 : Int) := (by omega); have q43 : 0 < (rdOf ByteArray.empty y322 x31_1).size := (by have : (0 : Int) < ((rdOf ByteArray.empty y322 x31_1).size : Int) := of_decide_eq_true (by first | (with_reducible assumption) | assumption); omega); have hx43 : ∀ h : 0 < (rdOf ByteArray.empty y322 x31_1).size, (((rdOf ByteArray.empty y322 x31_1)[0]'h).toNat : Int) = bt (rdOf ByteArray.empty y322 x31_1) 0 := bt_at (rdOf ByteArray.empty y322 x31_1) 0; clear p43; have qi43 : (0 < ((rdOf ByteArray.empty y322 x31_1).size : Int)) = True := eq_true (of_decide_eq_true (by first | (with_reducible assumption) | assumption)); replace q43 := eq_true q43))
            go_ret
            exact ⟨by first | rfl | (simp [errW_none, errW_some] <;> rfl) | (simp [*, errW_none, errW_some] <;> rfl), bw HB⟩
           ·rw [if_neg c44] at H
            have c44b0 : ((bt (rdOf ByteArray.empty y322 x31_1) 0) == 32) = false := beq_eq_false_iff_ne.mpr c44
            have c44b1 : ((bt (rdOf ByteArray.empty y322 x31_1) 0) != 32) = true := bne_iff_ne.mpr c44
            have H' := Aside0.mk H
            clear H
            have p325 : 0 ≤ (x31_1 : Int) := of_decide_eq_true (by first | (with_reducible assumption) | assumption)
            have q325 : x31_1 < (y322.length : Int) := of_decide_eq_true (by first | (with_reducible assumption) | assumption)
            obtain ⟨ad325, e325, hx325_0⟩ := Kd.at_string (Kd.R_reads' HO_29.out).2.2 x31_1 p325 q325
            cases e325
            replace p325 := eq_true p325
            replace q325 := eq_true q325
            go_wp2_with (first | ((with_reducible refine gate_callee (f := 11) rfl ?_); refine goesL_ (some 36) rfl rfl Tryz.func11 (by kernel_rfl) rfl #[.string (rdOf ByteArray.empty y322 x31_1), .string (⟨#[42]⟩ : ByteArray)] rfl (by (try simp only [List.map_toArray, List.map_cons, List.map_nil]); first | done | rfl | (simp only [List.length_drop, List.length_take]; rfl)) ?_; (with_reducible refine (strings_Contains.calls (rdOf ByteArray.empty y322 x31_1) (⟨#[42]⟩ : ByteArray) false _ A22.out).mono ?_); rintro e w' ⟨rfl, ⟨nd, rfl⟩⟩; refine ⟨_, rfl, ?_⟩; have hnb47 := NB317_316.out; have hnc47 := NB316_317.out; have hcz48_0 : wr.cell? ⟨gb317, 0, none⟩ = some (.int .i64 a2_0) := (blk_cell BK317.out 0).trans rfl; have hcz48_1 : wr.cell? ⟨gb317, 1, none⟩ = some (.int .i64 a2_1) := (blk_cell BK317.out 1).trans rfl; have hcz48_2 : wr.cell? ⟨gb317, 2, none⟩ = some (.int .i64 a2_2) := (blk_cell BK317.out 2).trans rfl; have hfz48_0 := blk_frozen BK317.out 0; have hfz48_1 := blk_frozen BK317.out 1; have hfz48_2 := blk_frozen BK317.out 2; have p43 : 0 ≤ (0 : Int) := (by omega); have q43 : 0 < (rdOf ByteArray.empty y322 x31_1).size := (by have : (0 : Int) < ((rdOf ByteArray.empty y322 x31_1).size : Int) := of_decide_eq_true (by first | (with_reducible assumption) | assumption); omega); have hx43 : ∀ h : 0 < (rdOf ByteArray.empty y322 x31_1).size, (((rdOf ByteArray.empty y322 x31_1)[0]'h).toNat : Int) = bt (rdOf ByteArray.empty y322 x31_1) 0 := bt_at (rdOf ByteArray.empty y322 x31_1) 0; clear p43; have qi43 : (0 < ((rdOf ByteArray.empty y322 x31_1).size : Int)) = True := eq_true (of_decide_eq_true (by first | (with_reducible assumption) | assumption)); replace q43 := eq_true q43))
            go_roundg k1
            case measure => have := HK1.out; omega
            case rel => exact ⟨(wrap64 (x31_1 + 1)), (by first | rfl | (simp; done) | (simp [*]; done)), H', ⟨by have := HK1.out; omega⟩, ⟨by (with_reducible repeat (first | apply Kd.R_alloc | apply Kd.R_drewN | apply Kd.R_drew)); exact HO_29.out⟩, ⟨by (with_reducible repeat (first | refine blk_drewN ?_ _ | refine blk_drew ?_ | refine blk_alloc ?_ _)); exact BK316.out⟩, ⟨by (with_reducible repeat (first | refine blk_drewN ?_ _ | refine blk_drew ?_ | refine blk_alloc ?_ _)); exact BK317.out⟩, ⟨bw HB⟩⟩
          ·rw [if_neg c42] at H
           exact absurd H (by simp)
        ·rw [if_neg c38] at H
         have c38b0 : (a2_0 == 0) = false := beq_eq_false_iff_ne.mpr c38
         have c38b1 : (a2_0 != 0) = true := bne_iff_ne.mpr c38
         by_cases c49 : ((rdOf ByteArray.empty y322 x31_1).size : Int) = a2_0
         ·rw [if_pos c49] at H
          have c49b0 : (((rdOf ByteArray.empty y322 x31_1).size : Int) == a2_0) = true := beq_iff_eq.mpr c49
          have c49b1 : (((rdOf ByteArray.empty y322 x31_1).size : Int) != a2_0) = false := bne_eq_false_iff_eq.mpr c49
          clear c49
          by_cases c50 : (rdOf ByteArray.empty y322 x31_1).toList = ([] : List UInt8)
          ·rw [if_pos c50] at H
           have c50b0 : ((rdOf ByteArray.empty y322 x31_1).toList == ([] : List UInt8)) = true := beq_iff_eq.mpr c50
           have c50b1 : ((rdOf ByteArray.empty y322 x31_1).toList != ([] : List UInt8)) = false := bne_eq_false_iff_eq.mpr c50
           clear c50
           obtain rfl := Option.some.inj H
           have p325 : 0 ≤ (x31_1 : Int) := of_decide_eq_true (by first | (with_reducible assumption) | assumption)
           have q325 : x31_1 < (y322.length : Int) := of_decide_eq_true (by first | (with_reducible assumption) | assumption)
           obtain ⟨ad325, e325, hx325_0⟩ := Kd.at_string (Kd.R_reads' HO_29.out).2.2 x31_1 p325 q325
           cases e325
           replace p325 := eq_true p325
           replace q325 := eq_true q325
           go_wp2_with (first | ((with_reducible refine gate_callee (f := 11) rfl ?_); refine goesL_ (some 36) rfl rfl Tryz.func11 (by kernel_rfl) rfl #[.string (rdOf ByteArray.empty y322 x31_1), .string (⟨#[42]⟩ : ByteArray)] rfl (by (try simp only [List.map_toArray, List.map_cons, List.map_nil]); first | done | rfl | (simp only [List.length_drop, List.length_take]; rfl)) ?_; (with_reducible refine (strings_Contains.calls (rdOf ByteArray.empty y322 x31_1) (⟨#[42]⟩ : ByteArray) false _ A22.out).mono ?_); rintro e w' ⟨rfl, ⟨nd, rfl⟩⟩; refine ⟨_, rfl, ?_⟩; have hnb51 := NB317_316.out; have hnc51 := NB316_317.out; have hcz52_0 : wr.cell? ⟨gb317, 0, none⟩ = some (.int .i64 a2_0) := (blk_cell BK317.out 0).trans rfl; have hcz52_1 : wr.cell? ⟨gb317, 1, none⟩ = some (.int .i64 a2_1) := (blk_cell BK317.out 1).trans rfl; have hcz52_2 : wr.cell? ⟨gb317, 2, none⟩ = some (.int .i64 a2_2) := (blk_cell BK317.out 2).trans rfl; have hfz52_0 := blk_frozen BK317.out 0; have hfz52_1 := blk_frozen BK317.out 1; have hfz52_2 := blk_frozen BK317.out 2))
           go_ret
           exact ⟨by first | rfl | (simp [errW_none, errW_some] <;> rfl) | (simp [*, errW_none, errW_some] <;> rfl), bw HB⟩
          ·rw [if_neg c50] at H
           have c50b0 : ((rdOf ByteArray.empty y322 x31_1).toList == ([] : List UInt8)) = false := beq_eq_false_iff_ne.mpr c50
           have c50b1 : ((rdOf ByteArray.empty y322 x31_1).toList != ([] : List UInt8)) = true := bne_iff_ne.mpr c50
           have H' := Aside0.mk H
           clear H
           have p325 : 0 ≤ (x31_1 : Int) := of_decide_eq_true (by first | (with_reducible assumption) | assumption)
           have q325 : x31_1 < (y322.length : Int) := of_decide_eq_true (by first | (with_reducible assumption) | assumption)
           obtain ⟨ad325, e325, hx325_0⟩ := Kd.at_string (Kd.R_reads' HO_29.out).2.2 x31_1 p325 q325
           cases e325
           replace p325 := eq_true p325
           replace q325 := eq_true q325
           go_wp2_with (first | ((with_reducible refine gate_callee (f := 11) rfl ?_); refine goesL_ (some 36) rfl rfl Tryz.func11 (by kernel_rfl) rfl #[.string (rdOf ByteArray.empty y322 x31_1), .string (⟨#[42]⟩ : ByteArray)] rfl (by (try simp only [List.map_toArray, List.map_cons, List.map_nil]); first | done | rfl | (simp only [List.length_drop, List.length_take]; rfl)) ?_; (with_reducible refine (strings_Contains.calls (rdOf ByteArray.empty y322 x31_1) (⟨#[42]⟩ : ByteArray) false _ A22.out).mono ?_); rintro e w' ⟨rfl, ⟨nd, rfl⟩⟩; refine ⟨_, rfl, ?_⟩; have hnb53 := NB317_316.out; have hnc53 := NB316_317.out; have hcz54_0 : wr.cell? ⟨gb317, 0, none⟩ = some (.int .i64 a2_0) := (blk_cell BK317.out 0).trans rfl; have hcz54_1 : wr.cell? ⟨gb317, 1, none⟩ = some (.int .i64 a2_1) := (blk_cell BK317.out 1).trans rfl; have hcz54_2 : wr.cell? ⟨gb317, 2, none⟩ = some (.int .i64 a2_2) := (blk_cell BK317.out 2).trans rfl; have hfz54_0 := blk_frozen BK317.out 0; have hfz54_1 := blk_frozen BK317.out 1; have hfz54_2 := blk_frozen BK317.out 2))
           go_roundg k1
           case measure => have := HK1.out; omega
           case rel => exact ⟨(wrap64 (x31_1 + 1)), (by first | rfl | (simp; done) | (simp [*]; done)), H', ⟨by have := HK1.out; omega⟩, ⟨by (with_reducible repeat (first | apply Kd.R_alloc | apply Kd.R_drewN | apply Kd.R_drew)); exact HO_29.out⟩, ⟨by (with_reducible repeat (first | refine blk_drewN ?_ _ | refine blk_drew ?_ | refine blk_alloc ?_ _)); exact BK316.out⟩, ⟨by (with_reducible repeat (first | refine blk_drewN ?_ _ | refine blk_drew ?_ | refine blk_alloc ?_ _)); exact BK317.out⟩, ⟨bw HB⟩⟩
         ·rw [if_neg c49] at H
          have c49b0 : (((rdOf ByteArray.empty y322 x31_1).size : Int) == a2_0) = false := beq_eq_false_iff_ne.mpr c49
          have c49b1 : (((rdOf ByteArray.empty y322 x31_1).size : Int) != a2_0) = true := bne_iff_ne.mpr c49
          by_cases c55 : ((rdOf ByteArray.empty y322 x31_1).size : Int) = (wrap64 (-a2_0))
          ·rw [if_pos c55] at H
           have c55b0 : (((rdOf ByteArray.empty y322 x31_1).size : Int) == (wrap64 (-a2_0))) = true := beq_iff_eq.mpr c55
           have c55b1 : (((rdOf ByteArray.empty y322 x31_1).size : Int) != (wrap64 (-a2_0))) = false := bne_eq_false_iff_eq.mpr c55
           clear c55
           by_cases c56 : (rdOf ByteArray.empty y322 x31_1).toList = ([] : List UInt8)
           ·rw [if_pos c56] at H
            have c56b0 : ((rdOf ByteArray.empty y322 x31_1).toList == ([] : List UInt8)) = true := beq_iff_eq.mpr c56
            have c56b1 : ((rdOf ByteArray.empty y322 x31_1).toList != ([] : List UInt8)) = false := bne_eq_false_iff_eq.mpr c56
            clear c56
            obtain rfl := Option.some.inj H
            have p325 : 0 ≤ (x31_1 : Int) := of_decide_eq_true (by first | (with_reducible assumption) | assumption)
            have q325 : x31_1 < (y322.length : Int) := of_decide_eq_true (by first | (with_reducible assumption) | assumption)
            obtain ⟨ad325, e325, hx325_0⟩ := Kd.at_string (Kd.R_reads' HO_29.out).2.2 x31_1 p325 q325
            cases e325
            replace p325 := eq_true p325
            replace q325 := eq_true q325
            go_wp2_with (first | ((with_reducible refine gate_callee (f := 11) rfl ?_); refine goesL_ (some 36) rfl rfl Tryz.func11 (by kernel_rfl) rfl #[.string (rdOf ByteArray.empty y322 x31_1), .string (⟨#[42]⟩ : ByteArray)] rfl (by (try simp only [List.map_toArray, List.map_cons, List.map_nil]); first | done | rfl | (simp only [List.length_drop, List.length_take]; rfl)) ?_; (with_reducible refine (strings_Contains.calls (rdOf ByteArray.empty y322 x31_1) (⟨#[42]⟩ : ByteArray) false _ A22.out).mono ?_); rintro e w' ⟨rfl, ⟨nd, rfl⟩⟩; refine ⟨_, rfl, ?_⟩; have hnb57 := NB317_316.out; have hnc57 := NB316_317.out; have hcz58_0 : wr.cell? ⟨gb317, 0, none⟩ = some (.int .i64 a2_0) := (blk_cell BK317.out 0).trans rfl; have hcz58_1 : wr.cell? ⟨gb317, 1, none⟩ = some (.int .i64 a2_1) := (blk_cell BK317.out 1).trans rfl; have hcz58_2 : wr.cell? ⟨gb317, 2, none⟩ = some (.int .i64 a2_2) := (blk_cell BK317.out 2).trans rfl; have hfz58_0 := blk_frozen BK317.out 0; have hfz58_1 := blk_frozen BK317.out 1; have hfz58_2 := blk_frozen BK317.out 2))
            go_ret
            exact ⟨by first | rfl | (simp [errW_none, errW_some] <;> rfl) | (simp [*, errW_none, errW_some] <;> rfl), bw HB⟩
           ·rw [if_neg c56] at H
            have c56b0 : ((rdOf ByteArray.empty y322 x31_1).toList == ([] : List UInt8)) = false := beq_eq_false_iff_ne.mpr c56
            have c56b1 : ((rdOf ByteArray.empty y322 x31_1).toList != ([] : List UInt8)) = true := bne_iff_ne.mpr c56
            have H' := Aside0.mk H
            clear H
            have p325 : 0 ≤ (x31_1 : Int) := of_decide_eq_true (by first | (with_reducible assumption) | assumption)
            have q325 : x31_1 < (y322.length : Int) := of_decide_eq_true (by first | (with_reducible assumption) | assumption)
            obtain ⟨ad325, e325, hx325_0⟩ := Kd.at_string (Kd.R_reads' HO_29.out).2.2 x31_1 p325 q325
            cases e325
            replace p325 := eq_true p325
            replace q325 := eq_true q325
            go_wp2_with (first | ((with_reducible refine gate_callee (f := 11) rfl ?_); refine goesL_ (some 36) rfl rfl Tryz.func11 (by kernel_rfl) rfl #[.string (rdOf ByteArray.empty y322 x31_1), .string (⟨#[42]⟩ : ByteArray)] rfl (by (try simp only [List.map_toArray, List.map_cons, List.map_nil]); first | done | rfl | (simp only [List.length_drop, List.length_take]; rfl)) ?_; (with_reducible refine (strings_Contains.calls (rdOf ByteArray.empty y322 x31_1) (⟨#[42]⟩ : ByteArray) false _ A22.out).mono ?_); rintro e w' ⟨rfl, ⟨nd, rfl⟩⟩; refine ⟨_, rfl, ?_⟩; have hnb59 := NB317_316.out; have hnc59 := NB316_317.out; have hcz60_0 : wr.cell? ⟨gb317, 0, none⟩ = some (.int .i64 a2_0) := (blk_cell BK317.out 0).trans rfl; have hcz60_1 : wr.cell? ⟨gb317, 1, none⟩ = some (.int .i64 a2_1) := (blk_cell BK317.out 1).trans rfl; have hcz60_2 : wr.cell? ⟨gb317, 2, none⟩ = some (.int .i64 a2_2) := (blk_cell BK317.out 2).trans rfl; have hfz60_0 := blk_frozen BK317.out 0; have hfz60_1 := blk_frozen BK317.out 1; have hfz60_2 := blk_frozen BK317.out 2))
            go_roundg k1
            case measure => have := HK1.out; omega
            case rel => exact ⟨(wrap64 (x31_1 + 1)), (by first | rfl | (simp; done) | (simp [*]; done)), H', ⟨by have := HK1.out; omega⟩, ⟨by (with_reducible repeat (first | apply Kd.R_alloc | apply Kd.R_drewN | apply Kd.R_drew)); exact HO_29.out⟩, ⟨by (with_reducible repeat (first | refine blk_drewN ?_ _ | refine blk_drew ?_ | refine blk_alloc ?_ _)); exact BK316.out⟩, ⟨by (with_reducible repeat (first | refine blk_drewN ?_ _ | refine blk_drew ?_ | refine blk_alloc ?_ _)); exact BK317.out⟩, ⟨bw HB⟩⟩
          ·rw [if_neg c55] at H
           have c55b0 : (((rdOf ByteArray.empty y322 x31_1).size : Int) == (wrap64 (-a2_0))) = false := beq_eq_false_iff_ne.mpr c55
           have c55b1 : (((rdOf ByteArray.empty y322 x31_1).size : Int) != (wrap64 (-a2_0))) = true := bne_iff_ne.mpr c55
           obtain rfl := Option.some.inj H
           have p325 : 0 ≤ (x31_1 : Int) := of_decide_eq_true (by first | (with_reducible assumption) | assumption)
           have q325 : x31_1 < (y322.length : Int) := of_decide_eq_true (by first | (with_reducible assumption) | assumption)
           obtain ⟨ad325, e325, hx325_0⟩ := Kd.at_string (Kd.R_reads' HO_29.out).2.2 x31_1 p325 q325
           cases e325
           replace p325 := eq_true p325
           replace q325 := eq_true q325
           go_wp2_with (first | ((with_reducible refine gate_callee (f := 11) rfl ?_); refine goesL_ (some 36) rfl rfl Tryz.func11 (by kernel_rfl) rfl #[.string (rdOf ByteArray.empty y322 x31_1), .string (⟨#[42]⟩ : ByteArray)] rfl (by (try simp only [List.map_toArray, List.map_cons, List.map_nil]); first | done | rfl | (simp only [List.length_drop, List.length_take]; rfl)) ?_; (with_reducible refine (strings_Contains.calls (rdOf ByteArray.empty y322 x31_1) (⟨#[42]⟩ : ByteArray) false _ A22.out).mono ?_); rintro e w' ⟨rfl, ⟨nd, rfl⟩⟩; refine ⟨_, rfl, ?_⟩; have hnb61 := NB317_316.out; have hnc61 := NB316_317.out; have hcz62_0 : wr.cell? ⟨gb317, 0, none⟩ = some (.int .i64 a2_0) := (blk_cell BK317.out 0).trans rfl; have hcz62_1 : wr.cell? ⟨gb317, 1, none⟩ = some (.int .i64 a2_1) := (blk_cell BK317.out 1).trans rfl; have hcz62_2 : wr.cell? ⟨gb317, 2, none⟩ = some (.int .i64 a2_2) := (blk_cell BK317.out 2).trans rfl; have hfz62_0 := blk_frozen BK317.out 0; have hfz62_1 := blk_frozen BK317.out 1; have hfz62_2 := blk_frozen BK317.out 2))
           go_ret
           exact ⟨by first | rfl | (simp [errW_none, errW_some] <;> rfl) | (simp [*, errW_none, errW_some] <;> rfl), bw HB⟩
      ·rw [if_neg c21] at H
       exact absurd H (by simp)
     ·rw [if_neg c20] at H
      exact absurd H (by simp)
    ·rw [if_neg c19] at H
     have c19b0 : decide (x31_1 < (y322.length : Int)) = false := decide_eq_false c19
     clear c19
     obtain rfl := Option.some.inj H
     go_wp2
     go_ret
     exact ⟨by first | rfl | (simp [errW_none, errW_some] <;> rfl) | (simp [*, errW_none, errW_some] <;> rfl), bw HB⟩
 ·replace c5 := Bool.eq_false_iff.mpr c5
  subst c5
  have H1 : (some false) = some r := by rw [if_neg (show ¬ (false = true) by decide)] at H; exact H
  clear H
  have H := H1
  clear H1
  obtain rfl := Option.some.inj H
  go_enter Tryz.func3, Tryz.ntmps3
  go_wp2_with (first | ((with_reducible refine gate_dst (N := 4) rfl ?_); (try (refine gate_guard (by rfl) ?_; dsimp only)); refine box_event ?hg (N := 4) ?hd (cs := #[.int .i64 a1_0, .int .i64 a1_1]) (t := 23) ?hr ?_; (case hd => rfl); (case hg => rfl); (case hr => first | (go_simp; done) | (go_simp; rfl)); intro gb316 hg w63 hbox hb; have BK316 := Aside0.mk (hbox); have GW316 := Aside0.mk (bs HB hg : w.heap.size ≤ gb316); replace HB := Aside0.mk (below_step (bw HB) hb); clear hb hbox hg) | ((with_reducible refine gate_dst (N := 5) rfl ?_); (try (refine gate_guard (by rfl) ?_; dsimp only)); refine box_event ?hg (N := 5) ?hd (cs := #[.int .i64 a2_0, .int .i64 a2_1, .int .i64 a2_2]) (t := 25) ?hr ?_; (case hd => rfl); (case hg => rfl); (case hr => first | (go_simp; done) | (go_simp; rfl)); intro gb317 hg w64 hbox hb; have BK317 := Aside0.mk (hbox); have GW317 := Aside0.mk (bs HB hg : w.heap.size ≤ gb317); replace HB := Aside0.mk (below_step (bw HB) hb); have NB316_317 := Aside0.mk (nl BK316 hg); have NB317_316 := Aside0.mk (ng BK316 hg); replace BK316 := Aside0.mk (bb BK316 hb); clear hb hbox hg) | ((with_reducible refine gate_callee (f := 7) rfl ?_); refine goesL_ (some 9) rfl rfl Tryz.func7 (by kernel_rfl) rfl #[] rfl (by (try simp only [List.map_toArray, List.map_cons, List.map_nil]); first | done | rfl | (simp only [List.length_drop, List.length_take]; rfl)) ?_; (with_reducible refine (environlaw03_awake.calls k  false _ (env_at HE_.out (bw HB)) A4.out).mono ?_); rintro e w65 ⟨rfl, hb⟩; refine ⟨_, rfl, ?_⟩; replace BK316 := Aside0.mk (bb BK316 hb); replace BK317 := Aside0.mk (bb BK317 hb); replace HB := Aside0.mk (below_step (bw HB) hb); (try clear hb); (try clear hb2); (try clear hk); (try clear hi)))
  go_ret
  exact ⟨by first | rfl | (simp [errW_none, errW_some] <;> rfl) | (simp [*, errW_none, errW_some] <;> rfl), bw HB⟩
end Go.Proofs.YtckbmniiecbalaaGreatDoor.PT
