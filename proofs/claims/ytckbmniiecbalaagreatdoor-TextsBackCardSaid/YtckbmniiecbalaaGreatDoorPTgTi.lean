-- written by a program of this session out of the kit's print (its words and its form)
import Derived.Test.YtckbmniiecbalaaGreatDoorPTgSa
import Derived.Test.YtckbmniiecbalaaGreatDoorPTgTa
import Derived.Test.YtckbmniiecbalaaGreatDoorPTgTc
import Derived.Test.YtckbmniiecbalaaGreatDoorPTgTd
import Derived.Test.YtckbmniiecbalaaGreatDoorPTgTh
import Derived.Test.YtckbmniiecbalaaGreatDoorPTsq
import Derived.Test.YtckbmniiecbalaaGreatDoorPTx0
import Derived.Test.YtckbmniiecbalaaGreatDoorPTx1
namespace Go.Proofs.YtckbmniiecbalaaGreatDoor.PT
open Go.RowKit Go.Proofs.YtckbmniiecbalaaGreatDoorW.PrintWords Go.Proofs.YtckbmniiecbalaaGreatDoorW.PrintLast Go.Proofs.YtckbmniiecbalaaGreatDoorW.PrintMore
attribute [local go_sem] max2_int min2_int max_two min_two max_three min_three max_four min_four   -- for this text's walks alone
set_option linter.unusedVariables false
set_option linter.unusedSimpArgs false

attribute [local go_sem high] eqA23
/-! ### environlaw03_awake: function 7 -/
def environlaw03_awake.f (k : Nat)  : Option (Bool) := (texts_ReadReal.f k 0 (⟨#[32, 45, 46, 53, 101, 49, 120]⟩ : ByteArray)).bind fun bt307 => ((texts_Whole.f (-5) 4).bind fun t312 => (if t312.toList = ([32, 32, 45, 53] : List UInt8) then ((texts_Whole.f 5 4).bind fun t313 => (if t313.toList = ([32, 32, 43, 53] : List UInt8) then ((texts_Fixed.f k 123456 (-3) 6 3).bind fun t314 => (if t314.toList = ([43, 49, 50, 51, 46, 53] : List UInt8) then ((texts_Float.f k 12345 0 0 2 3).bind fun t315 => (if t315.toList = ([49, 46, 50, 51, 101, 32, 43, 52] : List UInt8) then (if (bt307.1 == (-5) && (bt307.2.1 == 0)) = true then (if bt307.2.2.1 = 6 then (some (bt307.2.2.2 == 0)) else (some false)) else (some false)) else (some false))) else (some false))) else (some false))) else (some false)))
theorem environlaw03_awake.mono : ∀ k, LeO (environlaw03_awake.f k ) (environlaw03_awake.f (k + 1) ) := by
 intro  k
 unfold environlaw03_awake.f
 repeat' first
   | (with_reducible exact texts_Fixed.mono _ _ _ _ _)
   | (with_reducible exact texts_Float.mono _ _ _ _ _ _)
   | (with_reducible exact texts_ReadReal.mono _ _ _)
   | (with_reducible exact LeO.refl _)
   | (with_reducible exact LeO.none _)
   | (with_reducible refine LeO.ite ?_ ?_)
   | (with_reducible refine LeO.bind ?_ (fun _ => ?_))
   | exact texts_Fixed.mono _ _ _ _ _
   | exact texts_Float.mono _ _ _ _ _ _
   | exact texts_ReadReal.mono _ _ _
   | exact LeO.none _
   | refine LeO.ite ?_ ?_
   | refine LeO.bind ?_ (fun _ => ?_)
set_option maxHeartbeats 8000000 in
set_option maxRecDepth 100000 in
theorem environlaw03_awake.calls (k : Nat)  (r : Bool) (w : World) (hE : Env w) (h : environlaw03_awake.f k  = some r) :
  Calls Tryz.prog 7 #[] w fun e w' => e = .returned (.bool r) ∧ Below w.heap.size w w' := by
 have HE_ := Aside0.mk hE
 clear hE
 have hu23 := Tryz.underlying23
 have HB := Aside0.mk (Below.refl w.heap.size w)
 have H : ((texts_ReadReal.f k 0 (⟨#[32, 45, 46, 53, 101, 49, 120]⟩ : ByteArray)).bind fun bt307 => ((texts_Whole.f (-5) 4).bind fun t312 => (if t312.toList = ([32, 32, 45, 53] : List UInt8) then ((texts_Whole.f 5 4).bind fun t313 => (if t313.toList = ([32, 32, 43, 53] : List UInt8) then ((texts_Fixed.f k 123456 (-3) 6 3).bind fun t314 => (if t314.toList = ([43, 49, 50, 51, 46, 53] : List UInt8) then ((texts_Float.f k 12345 0 0 2 3).bind fun t315 => (if t315.toList = ([49, 46, 50, 51, 101, 32, 43, 52] : List UInt8) then (if (bt307.1 == (-5) && (bt307.2.1 == 0)) = true then (if bt307.2.2.1 = 6 then (some (bt307.2.2.2 == 0)) else (some false)) else (some false)) else (some false))) else (some false))) else (some false))) else (some false)))) = some r := h
 clear h
 replace H := Option.bind_eq_some_iff.mp H
 obtain ⟨⟨t307, t308, t309, t310⟩, A10, H⟩ := H
 replace H : ((texts_Whole.f (-5) 4).bind fun t312 => (if t312.toList = ([32, 32, 45, 53] : List UInt8) then ((texts_Whole.f 5 4).bind fun t313 => (if t313.toList = ([32, 32, 43, 53] : List UInt8) then ((texts_Fixed.f k 123456 (-3) 6 3).bind fun t314 => (if t314.toList = ([43, 49, 50, 51, 46, 53] : List UInt8) then ((texts_Float.f k 12345 0 0 2 3).bind fun t315 => (if t315.toList = ([49, 46, 50, 51, 101, 32, 43, 52] : List UInt8) then (if (t307 == (-5) && (t308 == 0)) = true then (if t309 = 6 then (some (t310 == 0)) else (some false)) else (some false)) else (some false))) else (some false))) else (some false))) else (some false))) = some r := H
 have A1 := Aside0.mk A10
 clear A10
 replace H := Option.bind_eq_some_iff.mp H
 obtain ⟨t312, A20, H⟩ := H
 replace H : (if t312.toList = ([32, 32, 45, 53] : List UInt8) then ((texts_Whole.f 5 4).bind fun t313 => (if t313.toList = ([32, 32, 43, 53] : List UInt8) then ((texts_Fixed.f k 123456 (-3) 6 3).bind fun t314 => (if t314.toList = ([43, 49, 50, 51, 46, 53] : List UInt8) then ((texts_Float.f k 12345 0 0 2 3).bind fun t315 => (if t315.toList = ([49, 46, 50, 51, 101, 32, 43, 52] : List UInt8) then (if (t307 == (-5) && (t308 == 0)) = true then (if t309 = 6 then (some (t310 == 0)) else (some false)) else (some false)) else (some false))) else (some false))) else (some false))) else (some false)) = some r := H
 have A2 := Aside0.mk A20
 clear A20
 by_cases c3 : t312.toList = ([32, 32, 45, 53] : List UInt8)
 ·rw [if_pos c3] at H
  have c3b0 : (t312.toList == ([32, 32, 45, 53] : List UInt8)) = true := beq_iff_eq.mpr c3
  have c3b1 : (t312.toList != ([32, 32, 45, 53] : List UInt8)) = false := bne_eq_false_iff_eq.mpr c3
  clear c3
  replace H := Option.bind_eq_some_iff.mp H
  obtain ⟨t313, A40, H⟩ := H
  replace H : (if t313.toList = ([32, 32, 43, 53] : List UInt8) then ((texts_Fixed.f k 123456 (-3) 6 3).bind fun t314 => (if t314.toList = ([43, 49, 50, 51, 46, 53] : List UInt8) then ((texts_Float.f k 12345 0 0 2 3).bind fun t315 => (if t315.toList = ([49, 46, 50, 51, 101, 32, 43, 52] : List UInt8) then (if (t307 == (-5) && (t308 == 0)) = true then (if t309 = 6 then (some (t310 == 0)) else (some false)) else (some false)) else (some false))) else (some false))) else (some false)) = some r := H
  have A4 := Aside0.mk A40
  clear A40
  by_cases c5 : t313.toList = ([32, 32, 43, 53] : List UInt8)
  ·rw [if_pos c5] at H
   have c5b0 : (t313.toList == ([32, 32, 43, 53] : List UInt8)) = true := beq_iff_eq.mpr c5
   have c5b1 : (t313.toList != ([32, 32, 43, 53] : List UInt8)) = false := bne_eq_false_iff_eq.mpr c5
   clear c5
   replace H := Option.bind_eq_some_iff.mp H
   obtain ⟨t314, A60, H⟩ := H
   replace H : (if t314.toList = ([43, 49, 50, 51, 46, 53] : List UInt8) then ((texts_Float.f k 12345 0 0 2 3).bind fun t315 => (if t315.toList = ([49, 46, 50, 51, 101, 32, 43, 52] : List UInt8) then (if (t307 == (-5) && (t308 == 0)) = true then (if t309 = 6 then (some (t310 == 0)) else (some false)) else (some false)) else (some false))) else (some false)) = some r := H
   have A6 := Aside0.mk A60
   clear A60
   by_cases c7 : t314.toList = ([43, 49, 50, 51, 46, 53] : List UInt8)
   ·rw [if_pos c7] at H
    have c7b0 : (t314.toList == ([43, 49, 50, 51, 46, 53] : List UInt8)) = true := beq_iff_eq.mpr c7
    have c7b1 : (t314.toList != ([43, 49, 50, 51, 46, 53] : List UInt8)) = false := bne_eq_false_iff_eq.mpr c7
    clear c7
    replace H := Option.bind_eq_some_iff.mp H
    obtain ⟨t315, A80, H⟩ := H
    replace H : (if t315.toList = ([49, 46, 50, 51, 101, 32, 43, 52] : List UInt8) then (if (t307 == (-5) && (t308 == 0)) = true then (if t309 = 6 then (some (t310 == 0)) else (some false)) else (some false)) else (some false)) = some r := H
    have A8 := Aside0.mk A80
    clear A80
    by_cases c9 : t315.toList = ([49, 46, 50, 51, 101, 32, 43, 52] : List UInt8)
    ·rw [if_pos c9] at H
     have c9b0 : (t315.toList == ([49, 46, 50, 51, 101, 32, 43, 52] : List UInt8)) = true := beq_iff_eq.mpr c9
     have c9b1 : (t315.toList != ([49, 46, 50, 51, 101, 32, 43, 52] : List UInt8)) = false := bne_eq_false_iff_eq.mpr c9
     clear c9
     by_cases c10 : (t307 == (-5) && (t308 == 0)) = true
     ·rw [if_pos c10] at H
      have c10b0 : (t307 == (-5) && (t308 == 0)) = true := c10
      (try (have c10b1 : decide (t307 = (-5) && (t308 == 0)) = true := by simpa using c10))
      (try (have c10b2 : (t307 == (-5) && (t308 == 0)) = true := by simpa using c10))
      clear c10
      by_cases c11 : t309 = 6
      ·rw [if_pos c11] at H
       have c11b0 : (t309 == 6) = true := beq_iff_eq.mpr c11
       have c11b1 : (t309 != 6) = false := bne_eq_false_iff_eq.mpr c11
       clear c11
       obtain rfl := Option.some.inj H
       go_enter Tryz.func7, Tryz.ntmps7
       go_wp2_with (first | ((with_reducible refine gate_callee (f := 20) rfl ?_); refine goesL_ (some 5) rfl rfl Tryz.func20 (by kernel_rfl) rfl #[.int .i64 0, .string (⟨#[32, 45, 46, 53, 101, 49, 120]⟩ : ByteArray)] rfl (by (try simp only [List.map_toArray, List.map_cons, List.map_nil]); first | done | rfl | (simp only [List.length_drop, List.length_take]; rfl)) ?_; (with_reducible refine (texts_ReadReal.calls k 0 (⟨#[32, 45, 46, 53, 101, 49, 120]⟩ : ByteArray) t307 t308 t309 t310 _ A1.out).mono ?_); rintro e w12 ⟨rfl, hb⟩; refine ⟨_, rfl, ?_⟩; replace HB := Aside0.mk (below_step (bw HB) hb); (try clear hb); (try clear hb2); (try clear hk); (try clear hi)) | ((with_reducible refine gate_dst (N := 1) rfl ?_); refine box_event ?hg (N := 1) ?hd (cs := #[.int .i64 0, .int .i64 0]) (t := 23) ?hr ?_; (case hd => rfl); (case hg => rfl); (case hr => first | (go_simp; done) | (go_simp; rfl)); intro gb311 hg w13 hbox hb; have BK311 := Aside0.mk (hbox); have GW311 := Aside0.mk (bs HB hg : w.heap.size ≤ gb311); replace HB := Aside0.mk (below_step (bw HB) hb); clear hb hbox hg; obtain ⟨hcz14_0, hcz14_1, hfz14_0, hfz14_1⟩ := cf2 BK311) | ((with_reducible refine gate_callee (f := 8) rfl ?_); refine goesL_ (some 9) rfl rfl Tryz.func8 (by kernel_rfl) rfl #[.int .i64 (-5), .int .i64 4] rfl (by (try simp only [List.map_toArray, List.map_cons, List.map_nil]); first | done | rfl | (simp only [List.length_drop, List.length_take]; rfl)) ?_; (with_reducible refine (texts_Whole.calls (-5) 4 t312 _ (env_at HE_.out (bw HB)) A2.out).mono ?_); rintro e w15 ⟨rfl, hb⟩; refine ⟨_, rfl, ?_⟩; replace BK311 := Aside0.mk (blk_below (g := gb311) (o := .cells #[.int .i64 t307, .int .i64 t308] 23 (0, 0)) (by (with_reducible repeat (first | refine blk_drewN ?_ _ | refine blk_drew ?_ | refine blk_alloc ?_ _)); refine blk_put (cs := #[.int .i64 t307, .int .i64 0]) ?_ 1 _ rfl; (with_reducible repeat (first | refine blk_drewN ?_ _ | refine blk_drew ?_ | refine blk_alloc ?_ _)); refine blk_put (cs := #[.int .i64 0, .int .i64 0]) ?_ 0 _ rfl; (with_reducible repeat (first | refine blk_drewN ?_ _ | refine blk_drew ?_ | refine blk_alloc ?_ _)); exact BK311.out) hb); replace HB := Aside0.mk (below_step (bw HB) hb); (try clear hb); (try clear hb2); (try clear hk); (try clear hi)) | (go_at_call 8; (with_reducible refine (texts_Whole.calls 5 4 t313 _ (env_at HE_.out (bw HB)) A4.out).mono ?_); rintro e w16 ⟨rfl, hb⟩; replace BK311 := Aside0.mk (bb BK311 hb); replace HB := Aside0.mk (below_step (bw HB) hb); (try clear hb); (try clear hb2); (try clear hk); (try clear hi)) | (go_at_call 9; (with_reducible refine (texts_Fixed.calls k 123456 (-3) 6 3 t314 _ (env_at HE_.out (bw HB)) A6.out).mono ?_); rintro e w17 ⟨rfl, hb⟩; replace BK311 := Aside0.mk (bb BK311 hb); replace HB := Aside0.mk (below_step (bw HB) hb); (try clear hb); (try clear hb2); (try clear hk); (try clear hi)) | (go_at_call 10; (with_reducible refine (texts_Float.calls k 12345 0 0 2 3 t315 _ (env_at HE_.out (bw HB)) A8.out).mono ?_); rintro e w18 ⟨rfl, hb⟩; replace BK311 := Aside0.mk (bb BK311 hb); replace HB := Aside0.mk (below_step (bw HB) hb); (try clear hb); (try clear hb2); (try clear hk); (try clear hi); obtain ⟨hcz19_0, hcz19_1, hfz19_0, hfz19_1⟩ := cf2 BK311))
       go_ret
       exact ⟨by first | rfl | (simp [errW_none, errW_some] <;> rfl) | (simp [*, errW_none, errW_some] <;> rfl), bw HB⟩
      ·rw [if_neg c11] at H
       have c11b0 : (t309 == 6) = false := beq_eq_false_iff_ne.mpr c11
       have c11b1 : (t309 != 6) = true := bne_iff_ne.mpr c11
       obtain rfl := Option.some.inj H
       go_enter Tryz.func7, Tryz.ntmps7
       go_wp2_with (first | ((with_reducible refine gate_callee (f := 20) rfl ?_); refine goesL_ (some 5) rfl rfl Tryz.func20 (by kernel_rfl) rfl #[.int .i64 0, .string (⟨#[32, 45, 46, 53, 101, 49, 120]⟩ : ByteArray)] rfl (by (try simp only [List.map_toArray, List.map_cons, List.map_nil]); first | done | rfl | (simp only [List.length_drop, List.length_take]; rfl)) ?_; (with_reducible refine (texts_ReadReal.calls k 0 (⟨#[32, 45, 46, 53, 101, 49, 120]⟩ : ByteArray) t307 t308 t309 t310 _ A1.out).mono ?_); rintro e w20 ⟨rfl, hb⟩; refine ⟨_, rfl, ?_⟩; replace HB := Aside0.mk (below_step (bw HB) hb); (try clear hb); (try clear hb2); (try clear hk); (try clear hi)) | ((with_reducible refine gate_dst (N := 1) rfl ?_); refine box_event ?hg (N := 1) ?hd (cs := #[.int .i64 0, .int .i64 0]) (t := 23) ?hr ?_; (case hd => rfl); (case hg => rfl); (case hr => first | (go_simp; done) | (go_simp; rfl)); intro gb311 hg w21 hbox hb; have BK311 := Aside0.mk (hbox); have GW311 := Aside0.mk (bs HB hg : w.heap.size ≤ gb311); replace HB := Aside0.mk (below_step (bw HB) hb); clear hb hbox hg; obtain ⟨hcz22_0, hcz22_1, hfz22_0, hfz22_1⟩ := cf2 BK311) | ((with_reducible refine gate_callee (f := 8) rfl ?_); refine goesL_ (some 9) rfl rfl Tryz.func8 (by kernel_rfl) rfl #[.int .i64 (-5), .int .i64 4] rfl (by (try simp only [List.map_toArray, List.map_cons, List.map_nil]); first | done | rfl | (simp only [List.length_drop, List.length_take]; rfl)) ?_; (with_reducible refine (texts_Whole.calls (-5) 4 t312 _ (env_at HE_.out (bw HB)) A2.out).mono ?_); rintro e w23 ⟨rfl, hb⟩; refine ⟨_, rfl, ?_⟩; replace BK311 := Aside0.mk (blk_below (g := gb311) (o := .cells #[.int .i64 t307, .int .i64 t308] 23 (0, 0)) (by (with_reducible repeat (first | refine blk_drewN ?_ _ | refine blk_drew ?_ | refine blk_alloc ?_ _)); refine blk_put (cs := #[.int .i64 t307, .int .i64 0]) ?_ 1 _ rfl; (with_reducible repeat (first | refine blk_drewN ?_ _ | refine blk_drew ?_ | refine blk_alloc ?_ _)); refine blk_put (cs := #[.int .i64 0, .int .i64 0]) ?_ 0 _ rfl; (with_reducible repeat (first | refine blk_drewN ?_ _ | refine blk_drew ?_ | refine blk_alloc ?_ _)); exact BK311.out) hb); replace HB := Aside0.mk (below_step (bw HB) hb); (try clear hb); (try clear hb2); (try clear hk); (try clear hi)) | (go_at_call 8; (with_reducible refine (texts_Whole.calls 5 4 t313 _ (env_at HE_.out (bw HB)) A4.out).mono ?_); rintro e w24 ⟨rfl, hb⟩; replace BK311 := Aside0.mk (bb BK311 hb); replace HB := Aside0.mk (below_step (bw HB) hb); (try clear hb); (try clear hb2); (try clear hk); (try clear hi)) | (go_at_call 9; (with_reducible refine (texts_Fixed.calls k 123456 (-3) 6 3 t314 _ (env_at HE_.out (bw HB)) A6.out).mono ?_); rintro e w25 ⟨rfl, hb⟩; replace BK311 := Aside0.mk (bb BK311 hb); replace HB := Aside0.mk (below_step (bw HB) hb); (try clear hb); (try clear hb2); (try clear hk); (try clear hi)) | (go_at_call 10; (with_reducible refine (texts_Float.calls k 12345 0 0 2 3 t315 _ (env_at HE_.out (bw HB)) A8.out).mono ?_); rintro e w26 ⟨rfl, hb⟩; replace BK311 := Aside0.mk (bb BK311 hb); replace HB := Aside0.mk (below_step (bw HB) hb); (try clear hb); (try clear hb2); (try clear hk); (try clear hi); obtain ⟨hcz27_0, hcz27_1, hfz27_0, hfz27_1⟩ := cf2 BK311))
       go_ret
       exact ⟨by first | rfl | (simp [errW_none, errW_some] <;> rfl) | (simp [*, errW_none, errW_some] <;> rfl), bw HB⟩
     ·rw [if_neg c10] at H
      have c10b0 : (t307 == (-5) && (t308 == 0)) = false := by simpa using c10
      (try (have c10b1 : decide (t307 = (-5) && (t308 == 0)) = false := by simpa using c10))
      (try (have c10b2 : (t307 == (-5) && (t308 == 0)) = false := by simpa using c10))
      (try (have c10b3 : ¬ (t307 = (-5) && (t308 == 0)) := by simpa using c10))
      clear c10
      obtain rfl := Option.some.inj H
      go_enter Tryz.func7, Tryz.ntmps7
      go_wp2_with (first | ((with_reducible refine gate_callee (f := 20) rfl ?_); refine goesL_ (some 5) rfl rfl Tryz.func20 (by kernel_rfl) rfl #[.int .i64 0, .string (⟨#[32, 45, 46, 53, 101, 49, 120]⟩ : ByteArray)] rfl (by (try simp only [List.map_toArray, List.map_cons, List.map_nil]); first | done | rfl | (simp only [List.length_drop, List.length_take]; rfl)) ?_; (with_reducible refine (texts_ReadReal.calls k 0 (⟨#[32, 45, 46, 53, 101, 49, 120]⟩ : ByteArray) t307 t308 t309 t310 _ A1.out).mono ?_); rintro e w28 ⟨rfl, hb⟩; refine ⟨_, rfl, ?_⟩; replace HB := Aside0.mk (below_step (bw HB) hb); (try clear hb); (try clear hb2); (try clear hk); (try clear hi)) | ((with_reducible refine gate_dst (N := 1) rfl ?_); refine box_event ?hg (N := 1) ?hd (cs := #[.int .i64 0, .int .i64 0]) (t := 23) ?hr ?_; (case hd => rfl); (case hg => rfl); (case hr => first | (go_simp; done) | (go_simp; rfl)); intro gb311 hg w29 hbox hb; have BK311 := Aside0.mk (hbox); have GW311 := Aside0.mk (bs HB hg : w.heap.size ≤ gb311); replace HB := Aside0.mk (below_step (bw HB) hb); clear hb hbox hg; obtain ⟨hcz30_0, hcz30_1, hfz30_0, hfz30_1⟩ := cf2 BK311) | ((with_reducible refine gate_callee (f := 8) rfl ?_); refine goesL_ (some 9) rfl rfl Tryz.func8 (by kernel_rfl) rfl #[.int .i64 (-5), .int .i64 4] rfl (by (try simp only [List.map_toArray, List.map_cons, List.map_nil]); first | done | rfl | (simp only [List.length_drop, List.length_take]; rfl)) ?_; (with_reducible refine (texts_Whole.calls (-5) 4 t312 _ (env_at HE_.out (bw HB)) A2.out).mono ?_); rintro e w31 ⟨rfl, hb⟩; refine ⟨_, rfl, ?_⟩; replace BK311 := Aside0.mk (blk_below (g := gb311) (o := .cells #[.int .i64 t307, .int .i64 t308] 23 (0, 0)) (by (with_reducible repeat (first | refine blk_drewN ?_ _ | refine blk_drew ?_ | refine blk_alloc ?_ _)); refine blk_put (cs := #[.int .i64 t307, .int .i64 0]) ?_ 1 _ rfl; (with_reducible repeat (first | refine blk_drewN ?_ _ | refine blk_drew ?_ | refine blk_alloc ?_ _)); refine blk_put (cs := #[.int .i64 0, .int .i64 0]) ?_ 0 _ rfl; (with_reducible repeat (first | refine blk_drewN ?_ _ | refine blk_drew ?_ | refine blk_alloc ?_ _)); exact BK311.out) hb); replace HB := Aside0.mk (below_step (bw HB) hb); (try clear hb); (try clear hb2); (try clear hk); (try clear hi)) | (go_at_call 8; (with_reducible refine (texts_Whole.calls 5 4 t313 _ (env_at HE_.out (bw HB)) A4.out).mono ?_); rintro e w32 ⟨rfl, hb⟩; replace BK311 := Aside0.mk (bb BK311 hb); replace HB := Aside0.mk (below_step (bw HB) hb); (try clear hb); (try clear hb2); (try clear hk); (try clear hi)) | (go_at_call 9; (with_reducible refine (texts_Fixed.calls k 123456 (-3) 6 3 t314 _ (env_at HE_.out (bw HB)) A6.out).mono ?_); rintro e w33 ⟨rfl, hb⟩; replace BK311 := Aside0.mk (bb BK311 hb); replace HB := Aside0.mk (below_step (bw HB) hb); (try clear hb); (try clear hb2); (try clear hk); (try clear hi)) | (go_at_call 10; (with_reducible refine (texts_Float.calls k 12345 0 0 2 3 t315 _ (env_at HE_.out (bw HB)) A8.out).mono ?_); rintro e w34 ⟨rfl, hb⟩; replace BK311 := Aside0.mk (bb BK311 hb); replace HB := Aside0.mk (below_step (bw HB) hb); (try clear hb); (try clear hb2); (try clear hk); (try clear hi); obtain ⟨hcz35_0, hcz35_1, hfz35_0, hfz35_1⟩ := cf2 BK311))
      go_ret
      exact ⟨by first | rfl | (simp [errW_none, errW_some] <;> rfl) | (simp [*, errW_none, errW_some] <;> rfl), bw HB⟩
    ·rw [if_neg c9] at H
     have c9b0 : (t315.toList == ([49, 46, 50, 51, 101, 32, 43, 52] : List UInt8)) = false := beq_eq_false_iff_ne.mpr c9
     have c9b1 : (t315.toList != ([49, 46, 50, 51, 101, 32, 43, 52] : List UInt8)) = true := bne_iff_ne.mpr c9
     obtain rfl := Option.some.inj H
     go_enter Tryz.func7, Tryz.ntmps7
     go_wp2_with (first | ((with_reducible refine gate_callee (f := 20) rfl ?_); refine goesL_ (some 5) rfl rfl Tryz.func20 (by kernel_rfl) rfl #[.int .i64 0, .string (⟨#[32, 45, 46, 53, 101, 49, 120]⟩ : ByteArray)] rfl (by (try simp only [List.map_toArray, List.map_cons, List.map_nil]); first | done | rfl | (simp only [List.length_drop, List.length_take]; rfl)) ?_; (with_reducible refine (texts_ReadReal.calls k 0 (⟨#[32, 45, 46, 53, 101, 49, 120]⟩ : ByteArray) t307 t308 t309 t310 _ A1.out).mono ?_); rintro e w36 ⟨rfl, hb⟩; refine ⟨_, rfl, ?_⟩; replace HB := Aside0.mk (below_step (bw HB) hb); (try clear hb); (try clear hb2); (try clear hk); (try clear hi)) | ((with_reducible refine gate_dst (N := 1) rfl ?_); refine box_event ?hg (N := 1) ?hd (cs := #[.int .i64 0, .int .i64 0]) (t := 23) ?hr ?_; (case hd => rfl); (case hg => rfl); (case hr => first | (go_simp; done) | (go_simp; rfl)); intro gb311 hg w37 hbox hb; have BK311 := Aside0.mk (hbox); have GW311 := Aside0.mk (bs HB hg : w.heap.size ≤ gb311); replace HB := Aside0.mk (below_step (bw HB) hb); clear hb hbox hg; obtain ⟨hcz38_0, hcz38_1, hfz38_0, hfz38_1⟩ := cf2 BK311) | ((with_reducible refine gate_callee (f := 8) rfl ?_); refine goesL_ (some 9) rfl rfl Tryz.func8 (by kernel_rfl) rfl #[.int .i64 (-5), .int .i64 4] rfl (by (try simp only [List.map_toArray, List.map_cons, List.map_nil]); first | done | rfl | (simp only [List.length_drop, List.length_take]; rfl)) ?_; (with_reducible refine (texts_Whole.calls (-5) 4 t312 _ (env_at HE_.out (bw HB)) A2.out).mono ?_); rintro e w39 ⟨rfl, hb⟩; refine ⟨_, rfl, ?_⟩; replace BK311 := Aside0.mk (blk_below (g := gb311) (o := .cells #[.int .i64 t307, .int .i64 t308] 23 (0, 0)) (by (with_reducible repeat (first | refine blk_drewN ?_ _ | refine blk_drew ?_ | refine blk_alloc ?_ _)); refine blk_put (cs := #[.int .i64 t307, .int .i64 0]) ?_ 1 _ rfl; (with_reducible repeat (first | refine blk_drewN ?_ _ | refine blk_drew ?_ | refine blk_alloc ?_ _)); refine blk_put (cs := #[.int .i64 0, .int .i64 0]) ?_ 0 _ rfl; (with_reducible repeat (first | refine blk_drewN ?_ _ | refine blk_drew ?_ | refine blk_alloc ?_ _)); exact BK311.out) hb); replace HB := Aside0.mk (below_step (bw HB) hb); (try clear hb); (try clear hb2); (try clear hk); (try clear hi)) | (go_at_call 8; (with_reducible refine (texts_Whole.calls 5 4 t313 _ (env_at HE_.out (bw HB)) A4.out).mono ?_); rintro e w40 ⟨rfl, hb⟩; replace BK311 := Aside0.mk (bb BK311 hb); replace HB := Aside0.mk (below_step (bw HB) hb); (try clear hb); (try clear hb2); (try clear hk); (try clear hi)) | (go_at_call 9; (with_reducible refine (texts_Fixed.calls k 123456 (-3) 6 3 t314 _ (env_at HE_.out (bw HB)) A6.out).mono ?_); rintro e w41 ⟨rfl, hb⟩; replace BK311 := Aside0.mk (bb BK311 hb); replace HB := Aside0.mk (below_step (bw HB) hb); (try clear hb); (try clear hb2); (try clear hk); (try clear hi)) | (go_at_call 10; (with_reducible refine (texts_Float.calls k 12345 0 0 2 3 t315 _ (env_at HE_.out (bw HB)) A8.out).mono ?_); rintro e w42 ⟨rfl, hb⟩; replace BK311 := Aside0.mk (bb BK311 hb); replace HB := Aside0.mk (below_step (bw HB) hb); (try clear hb); (try clear hb2); (try clear hk); (try clear hi)))
     go_ret
     exact ⟨by first | rfl | (simp [errW_none, errW_some] <;> rfl) | (simp [*, errW_none, errW_some] <;> rfl), bw HB⟩
   ·rw [if_neg c7] at H
    have c7b0 : (t314.toList == ([43, 49, 50, 51, 46, 53] : List UInt8)) = false := beq_eq_false_iff_ne.mpr c7
    have c7b1 : (t314.toList != ([43, 49, 50, 51, 46, 53] : List UInt8)) = true := bne_iff_ne.mpr c7
    obtain rfl := Option.some.inj H
    go_enter Tryz.func7, Tryz.ntmps7
    go_wp2_with (first | ((with_reducible refine gate_callee (f := 20) rfl ?_); refine goesL_ (some 5) rfl rfl Tryz.func20 (by kernel_rfl) rfl #[.int .i64 0, .string (⟨#[32, 45, 46, 53, 101, 49, 120]⟩ : ByteArray)] rfl (by (try simp only [List.map_toArray, List.map_cons, List.map_nil]); first | done | rfl | (simp only [List.length_drop, List.length_take]; rfl)) ?_; (with_reducible refine (texts_ReadReal.calls k 0 (⟨#[32, 45, 46, 53, 101, 49, 120]⟩ : ByteArray) t307 t308 t309 t310 _ A1.out).mono ?_); rintro e w43 ⟨rfl, hb⟩; refine ⟨_, rfl, ?_⟩; replace HB := Aside0.mk (below_step (bw HB) hb); (try clear hb); (try clear hb2); (try clear hk); (try clear hi)) | ((with_reducible refine gate_dst (N := 1) rfl ?_); refine box_event ?hg (N := 1) ?hd (cs := #[.int .i64 0, .int .i64 0]) (t := 23) ?hr ?_; (case hd => rfl); (case hg => rfl); (case hr => first | (go_simp; done) | (go_simp; rfl)); intro gb311 hg w44 hbox hb; have BK311 := Aside0.mk (hbox); have GW311 := Aside0.mk (bs HB hg : w.heap.size ≤ gb311); replace HB := Aside0.mk (below_step (bw HB) hb); clear hb hbox hg; obtain ⟨hcz45_0, hcz45_1, hfz45_0, hfz45_1⟩ := cf2 BK311) | ((with_reducible refine gate_callee (f := 8) rfl ?_); refine goesL_ (some 9) rfl rfl Tryz.func8 (by kernel_rfl) rfl #[.int .i64 (-5), .int .i64 4] rfl (by (try simp only [List.map_toArray, List.map_cons, List.map_nil]); first | done | rfl | (simp only [List.length_drop, List.length_take]; rfl)) ?_; (with_reducible refine (texts_Whole.calls (-5) 4 t312 _ (env_at HE_.out (bw HB)) A2.out).mono ?_); rintro e w46 ⟨rfl, hb⟩; refine ⟨_, rfl, ?_⟩; replace BK311 := Aside0.mk (blk_below (g := gb311) (o := .cells #[.int .i64 t307, .int .i64 t308] 23 (0, 0)) (by (with_reducible repeat (first | refine blk_drewN ?_ _ | refine blk_drew ?_ | refine blk_alloc ?_ _)); refine blk_put (cs := #[.int .i64 t307, .int .i64 0]) ?_ 1 _ rfl; (with_reducible repeat (first | refine blk_drewN ?_ _ | refine blk_drew ?_ | refine blk_alloc ?_ _)); refine blk_put (cs := #[.int .i64 0, .int .i64 0]) ?_ 0 _ rfl; (with_reducible repeat (first | refine blk_drewN ?_ _ | refine blk_drew ?_ | refine blk_alloc ?_ _)); exact BK311.out) hb); replace HB := Aside0.mk (below_step (bw HB) hb); (try clear hb); (try clear hb2); (try clear hk); (try clear hi)) | (go_at_call 8; (with_reducible refine (texts_Whole.calls 5 4 t313 _ (env_at HE_.out (bw HB)) A4.out).mono ?_); rintro e w47 ⟨rfl, hb⟩; replace BK311 := Aside0.mk (bb BK311 hb); replace HB := Aside0.mk (below_step (bw HB) hb); (try clear hb); (try clear hb2); (try clear hk); (try clear hi)) | (go_at_call 9; (with_reducible refine (texts_Fixed.calls k 123456 (-3) 6 3 t314 _ (env_at HE_.out (bw HB)) A6.out).mono ?_); rintro e w48 ⟨rfl, hb⟩; replace BK311 := Aside0.mk (bb BK311 hb); replace HB := Aside0.mk (below_step (bw HB) hb); (try clear hb); (try clear hb2); (try clear hk); (try clear hi)))
    go_ret
    exact ⟨by first | rfl | (simp [errW_none, errW_some] <;> rfl) | (simp [*, errW_none, errW_some] <;> rfl), bw HB⟩
  ·rw [if_neg c5] at H
   have c5b0 : (t313.toList == ([32, 32, 43, 53] : List UInt8)) = false := beq_eq_false_iff_ne.mpr c5
   have c5b1 : (t313.toList != ([32, 32, 43, 53] : List UInt8)) = true := bne_iff_ne.mpr c5
   obtain rfl := Option.some.inj H
   go_enter Tryz.func7, Tryz.ntmps7
   go_wp2_with (first | ((with_reducible refine gate_callee (f := 20) rfl ?_); refine goesL_ (some 5) rfl rfl Tryz.func20 (by kernel_rfl) rfl #[.int .i64 0, .string (⟨#[32, 45, 46, 53, 101, 49, 120]⟩ : ByteArray)] rfl (by (try simp only [List.map_toArray, List.map_cons, List.map_nil]); first | done | rfl | (simp only [List.length_drop, List.length_take]; rfl)) ?_; (with_reducible refine (texts_ReadReal.calls k 0 (⟨#[32, 45, 46, 53, 101, 49, 120]⟩ : ByteArray) t307 t308 t309 t310 _ A1.out).mono ?_); rintro e w49 ⟨rfl, hb⟩; refine ⟨_, rfl, ?_⟩; replace HB := Aside0.mk (below_step (bw HB) hb); (try clear hb); (try clear hb2); (try clear hk); (try clear hi)) | ((with_reducible refine gate_dst (N := 1) rfl ?_); refine box_event ?hg (N := 1) ?hd (cs := #[.int .i64 0, .int .i64 0]) (t := 23) ?hr ?_; (case hd => rfl); (case hg => rfl); (case hr => first | (go_simp; done) | (go_simp; rfl)); intro gb311 hg w50 hbox hb; have BK311 := Aside0.mk (hbox); have GW311 := Aside0.mk (bs HB hg : w.heap.size ≤ gb311); replace HB := Aside0.mk (below_step (bw HB) hb); clear hb hbox hg; obtain ⟨hcz51_0, hcz51_1, hfz51_0, hfz51_1⟩ := cf2 BK311) | ((with_reducible refine gate_callee (f := 8) rfl ?_); refine goesL_ (some 9) rfl rfl Tryz.func8 (by kernel_rfl) rfl #[.int .i64 (-5), .int .i64 4] rfl (by (try simp only [List.map_toArray, List.map_cons, List.map_nil]); first | done | rfl | (simp only [List.length_drop, List.length_take]; rfl)) ?_; (with_reducible refine (texts_Whole.calls (-5) 4 t312 _ (env_at HE_.out (bw HB)) A2.out).mono ?_); rintro e w52 ⟨rfl, hb⟩; refine ⟨_, rfl, ?_⟩; replace BK311 := Aside0.mk (blk_below (g := gb311) (o := .cells #[.int .i64 t307, .int .i64 t308] 23 (0, 0)) (by (with_reducible repeat (first | refine blk_drewN ?_ _ | refine blk_drew ?_ | refine blk_alloc ?_ _)); refine blk_put (cs := #[.int .i64 t307, .int .i64 0]) ?_ 1 _ rfl; (with_reducible repeat (first | refine blk_drewN ?_ _ | refine blk_drew ?_ | refine blk_alloc ?_ _)); refine blk_put (cs := #[.int .i64 0, .int .i64 0]) ?_ 0 _ rfl; (with_reducible repeat (first | refine blk_drewN ?_ _ | refine blk_drew ?_ | refine blk_alloc ?_ _)); exact BK311.out) hb); replace HB := Aside0.mk (below_step (bw HB) hb); (try clear hb); (try clear hb2); (try clear hk); (try clear hi)) | (go_at_call 8; (with_reducible refine (texts_Whole.calls 5 4 t313 _ (env_at HE_.out (bw HB)) A4.out).mono ?_); rintro e w53 ⟨rfl, hb⟩; replace BK311 := Aside0.mk (bb BK311 hb); replace HB := Aside0.mk (below_step (bw HB) hb); (try clear hb); (try clear hb2); (try clear hk); (try clear hi)))
   go_ret
   exact ⟨by first | rfl | (simp [errW_none, errW_some] <;> rfl) | (simp [*, errW_none, errW_some] <;> rfl), bw HB⟩
 ·rw [if_neg c3] at H
  have c3b0 : (t312.toList == ([32, 32, 45, 53] : List UInt8)) = false := beq_eq_false_iff_ne.mpr c3
  have c3b1 : (t312.toList != ([32, 32, 45, 53] : List UInt8)) = true := bne_iff_ne.mpr c3
  obtain rfl := Option.some.inj H
  go_enter Tryz.func7, Tryz.ntmps7
  go_wp2_with (first | ((with_reducible refine gate_callee (f := 20) rfl ?_); refine goesL_ (some 5) rfl rfl Tryz.func20 (by kernel_rfl) rfl #[.int .i64 0, .string (⟨#[32, 45, 46, 53, 101, 49, 120]⟩ : ByteArray)] rfl (by (try simp only [List.map_toArray, List.map_cons, List.map_nil]); first | done | rfl | (simp only [List.length_drop, List.length_take]; rfl)) ?_; (with_reducible refine (texts_ReadReal.calls k 0 (⟨#[32, 45, 46, 53, 101, 49, 120]⟩ : ByteArray) t307 t308 t309 t310 _ A1.out).mono ?_); rintro e w54 ⟨rfl, hb⟩; refine ⟨_, rfl, ?_⟩; replace HB := Aside0.mk (below_step (bw HB) hb); (try clear hb); (try clear hb2); (try clear hk); (try clear hi)) | ((with_reducible refine gate_dst (N := 1) rfl ?_); refine box_event ?hg (N := 1) ?hd (cs := #[.int .i64 0, .int .i64 0]) (t := 23) ?hr ?_; (case hd => rfl); (case hg => rfl); (case hr => first | (go_simp; done) | (go_simp; rfl)); intro gb311 hg w55 hbox hb; have BK311 := Aside0.mk (hbox); have GW311 := Aside0.mk (bs HB hg : w.heap.size ≤ gb311); replace HB := Aside0.mk (below_step (bw HB) hb); clear hb hbox hg; obtain ⟨hcz56_0, hcz56_1, hfz56_0, hfz56_1⟩ := cf2 BK311) | ((with_reducible refine gate_callee (f := 8) rfl ?_); refine goesL_ (some 9) rfl rfl Tryz.func8 (by kernel_rfl) rfl #[.int .i64 (-5), .int .i64 4] rfl (by (try simp only [List.map_toArray, List.map_cons, List.map_nil]); first | done | rfl | (simp only [List.length_drop, List.length_take]; rfl)) ?_; (with_reducible refine (texts_Whole.calls (-5) 4 t312 _ (env_at HE_.out (bw HB)) A2.out).mono ?_); rintro e w57 ⟨rfl, hb⟩; refine ⟨_, rfl, ?_⟩; replace BK311 := Aside0.mk (blk_below (g := gb311) (o := .cells #[.int .i64 t307, .int .i64 t308] 23 (0, 0)) (by (with_reducible repeat (first | refine blk_drewN ?_ _ | refine blk_drew ?_ | refine blk_alloc ?_ _)); refine blk_put (cs := #[.int .i64 t307, .int .i64 0]) ?_ 1 _ rfl; (with_reducible repeat (first | refine blk_drewN ?_ _ | refine blk_drew ?_ | refine blk_alloc ?_ _)); refine blk_put (cs := #[.int .i64 0, .int .i64 0]) ?_ 0 _ rfl; (with_reducible repeat (first | refine blk_drewN ?_ _ | refine blk_drew ?_ | refine blk_alloc ?_ _)); exact BK311.out) hb); replace HB := Aside0.mk (below_step (bw HB) hb); (try clear hb); (try clear hb2); (try clear hk); (try clear hi)))
  go_ret
  exact ⟨by first | rfl | (simp [errW_none, errW_some] <;> rfl) | (simp [*, errW_none, errW_some] <;> rfl), bw HB⟩

-- the shelf tells of its caller
end Go.Proofs.YtckbmniiecbalaaGreatDoor.PT
