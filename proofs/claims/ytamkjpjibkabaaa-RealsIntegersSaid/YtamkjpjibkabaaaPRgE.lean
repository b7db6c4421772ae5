-- written by a program of this session out of the kit's print (its words and its form)
import Derived.Test.YtamkjpjibkabaaaPRgA
import Derived.Test.YtamkjpjibkabaaaPRgB
import Derived.Test.YtamkjpjibkabaaaPRgC
import Derived.Test.YtamkjpjibkabaaaPRgD
import Derived.Test.YtamkjpjibkabaaaPRsq
import Derived.Test.YtamkjpjibkabaaaPRx0
namespace Go.Proofs.Ytamkjpjibkabaaa.PR
open Go.RowKit Go.Proofs.YtamkjpjibkabaaaW.PrintWords Go.Proofs.YtamkjpjibkabaaaW.PrintLast Go.Proofs.YtamkjpjibkabaaaW.PrintMore
attribute [local go_sem] max2_int min2_int max_two min_two max_three min_three max_four min_four   -- for this text's walks alone
set_option linter.unusedVariables false
set_option linter.unusedSimpArgs false

/-! ### reals_Make: function 17 -/
def reals_Make.f (k : Nat) (a0 : Int) (a1 : Int) (a2 : Int) (a3 : Int) : Option (Int × Int × Int) := (reals_check.f k a0 a1 ([] : List (S29))).bind fun bt156 => (if bt156.2 = 0 then ((reals_of.f a2 (mn (mx a3 (-1000)) 1000)).bind fun bt158 => ((reals_exact_round.f k bt158.1 bt158.2.1 bt158.2.2.1 bt158.2.2.2.1 bt158.2.2.2.2 bt156.1 a1).bind fun bt163 => (some (bt163.1, bt163.2.1, bt163.2.2)))) else (some (0, 0, bt156.2)))
theorem reals_Make.mono : ∀ a0 a1 a2 a3 k, LeO (reals_Make.f k a0 a1 a2 a3) (reals_Make.f (k + 1) a0 a1 a2 a3) := by
 intro a0 a1 a2 a3 k
 unfold reals_Make.f
 repeat' first
   | (with_reducible exact reals_check.mono _ _ _ _)
   | (with_reducible exact reals_exact_round.mono _ _ _ _ _ _ _ _)
   | (with_reducible exact LeO.refl _)
   | (with_reducible exact LeO.none _)
   | (with_reducible refine LeO.ite ?_ ?_)
   | (with_reducible refine LeO.bind ?_ (fun _ => ?_))
   | exact reals_check.mono _ _ _ _
   | exact reals_exact_round.mono _ _ _ _ _ _ _ _
   | exact LeO.none _
   | refine LeO.ite ?_ ?_
   | refine LeO.bind ?_ (fun _ => ?_)
set_option maxHeartbeats 8000000 in
set_option maxRecDepth 100000 in
theorem reals_Make.calls (k : Nat) (a0 : Int) (a1 : Int) (a2 : Int) (a3 : Int) (r1 : Int) (r2 : Int) (r3 : Int) (w : World) (h : reals_Make.f k a0 a1 a2 a3 = some (r1, r2, r3)) :
  Calls Try.prog 17 #[.int .i64 a0, .int .i64 a1, .int .i64 a2, .int .i64 a3] w fun e w' => e = .returned (.tuple #[.agg #[.int .i64 r1, .int .i64 r2], .int .i64 r3]) ∧ Below w.heap.size w w' := by
 have hu29 := Try.underlying29
 have HB := Aside0.mk (Below.refl w.heap.size w)
 have H : ((reals_check.f k a0 a1 ([] : List (S29))).bind fun bt156 => (if bt156.2 = 0 then ((reals_of.f a2 (mn (mx a3 (-1000)) 1000)).bind fun bt158 => ((reals_exact_round.f k bt158.1 bt158.2.1 bt158.2.2.1 bt158.2.2.2.1 bt158.2.2.2.2 bt156.1 a1).bind fun bt163 => (some (bt163.1, bt163.2.1, bt163.2.2)))) else (some (0, 0, bt156.2)))) = some (r1, r2, r3) := h
 clear h
 replace H := Option.bind_eq_some_iff.mp H
 obtain ⟨⟨t156, t157⟩, A50, H⟩ := H
 replace H : (if t157 = 0 then ((reals_of.f a2 (mn (mx a3 (-1000)) 1000)).bind fun bt158 => ((reals_exact_round.f k bt158.1 bt158.2.1 bt158.2.2.1 bt158.2.2.2.1 bt158.2.2.2.2 t156 a1).bind fun bt163 => (some (bt163.1, bt163.2.1, bt163.2.2)))) else (some (0, 0, t157))) = some (r1, r2, r3) := H
 have A5 := Aside0.mk A50
 clear A50
 by_cases c6 : t157 = 0
 ·rw [if_pos c6] at H
  have c6b0 : (t157 == 0) = true := beq_iff_eq.mpr c6
  have c6b1 : (t157 != 0) = false := bne_eq_false_iff_eq.mpr c6
  clear c6
  obtain ⟨ji7, hji7⟩ : ∃ j_ : Int, (mx a3 (-1000)) = j_ := ⟨_, rfl⟩
  replace H : ((reals_of.f a2 (mn (ji7) 1000)).bind fun bt158 => ((reals_exact_round.f k bt158.1 bt158.2.1 bt158.2.2.1 bt158.2.2.2.1 bt158.2.2.2.2 t156 a1).bind fun bt163 => (some (bt163.1, bt163.2.1, bt163.2.2)))) = some (r1, r2, r3) := by first | (rw [hji7] at H; exact H) | (simp only [hji7] at H ⊢; exact H)
  (try rw [hji7] at A5)
  have hji7_ : (if a3 < (-1000) then (-1000) else a3) = ji7 := hji7
  obtain ⟨ji8, hji8⟩ : ∃ j_ : Int, (mn (ji7) 1000) = j_ := ⟨_, rfl⟩
  replace H : ((reals_of.f a2 (ji8)).bind fun bt158 => ((reals_exact_round.f k bt158.1 bt158.2.1 bt158.2.2.1 bt158.2.2.2.1 bt158.2.2.2.2 t156 a1).bind fun bt163 => (some (bt163.1, bt163.2.1, bt163.2.2)))) = some (r1, r2, r3) := by first | (rw [hji8] at H; exact H) | (simp only [hji8] at H ⊢; exact H)
  (try rw [hji8] at A5)
  have hji8_ : (if 1000 < (ji7) then 1000 else (ji7)) = ji8 := hji8
  replace H := Option.bind_eq_some_iff.mp H
  obtain ⟨⟨t158, t159, t160, t161, t162⟩, A90, H⟩ := H
  replace H : ((reals_exact_round.f k t158 t159 t160 t161 t162 t156 a1).bind fun bt163 => (some (bt163.1, bt163.2.1, bt163.2.2))) = some (r1, r2, r3) := H
  have A9 := Aside0.mk A90
  clear A90
  replace H := Option.bind_eq_some_iff.mp H
  obtain ⟨⟨t163, t164, t165⟩, A100, H⟩ := H
  replace H : (some (t163, t164, t165)) = some (r1, r2, r3) := H
  have A10 := Aside0.mk A100
  clear A100
  simp only [Option.some.injEq, Prod.mk.injEq] at H
  obtain ⟨rfl, rfl, rfl⟩ := H
  go_enter Try.func17, Try.ntmps17
  go_wp2_with (first | ((with_reducible refine gate_dst (N := 8) rfl ?_); refine box_event ?hg (N := 8) ?hd (cs := #[.int .i64 0, .int .i64 0]) (t := 29) ?hr ?_; (case hd => rfl); (case hg => rfl); (case hr => first | (go_simp; done) | (go_simp; rfl)); intro gb155 hg w11 hbox hb; have BK155 := Aside0.mk (hbox); have GW155 := Aside0.mk (bs HB hg : w.heap.size ≤ gb155); replace HB := Aside0.mk (below_step (bw HB) hb); clear hb hbox hg) | ((with_reducible refine gate_callee (f := 50) rfl ?_); refine goesL_ (some 15) rfl rfl Try.func50 (by kernel_rfl) rfl #[.int .i64 a0, .int .i64 a1, .slice none 0 0] rfl (by (try simp only [List.map_toArray, List.map_cons, List.map_nil]); first | done | rfl | (simp only [List.length_drop, List.length_take]; rfl)) ?_; (refine (reals_check.calls k a0 a1 _ _ ([] : List (S29)) t156 t157 _ ?side1 ?side2 A5.out).mono ?_); (case side1 => exact Kd.C_nil _ _); (case side2 => exact Nat.le_refl _); rintro e w12 ⟨rfl, hb⟩; refine ⟨_, rfl, ?_⟩; replace BK155 := Aside0.mk (bb BK155 hb); replace HB := Aside0.mk (below_step (bw HB) hb); (try clear hb); (try clear hb2); (try clear hk); (try clear hi)) | ((with_reducible refine gate_callee (f := 51) rfl ?_); refine goesL_ (some 27) rfl rfl Try.func51 (by kernel_rfl) rfl #[.agg #[.int .i64 a2, .int .i64 ji8]] rfl (by (try simp only [List.map_toArray, List.map_cons, List.map_nil]); first | done | (simp only [hji8]; rfl) | rfl | (simp only [List.length_drop, List.length_take]; rfl)) ?_; (with_reducible refine (reals_of.calls a2 ji8 t158 t159 t160 t161 t162 _ A9.out).mono ?_); rintro e w13 ⟨rfl, hb⟩; refine ⟨_, rfl, ?_⟩; replace BK155 := Aside0.mk (bb BK155 hb); replace HB := Aside0.mk (below_step (bw HB) hb); (try clear hb); (try clear hb2); (try clear hk); (try clear hi)) | ((with_reducible refine gate_callee (f := 52) rfl ?_); refine goesL_ (some 30) rfl rfl Try.func52 (by kernel_rfl) rfl #[.agg #[.bool t158, .int .u64 t159, .int .u64 t160, .int .i64 t161, .bool t162], .int .i64 t156, .int .i64 a1] rfl (by (try simp only [List.map_toArray, List.map_cons, List.map_nil]); first | done | rfl | (simp only [List.length_drop, List.length_take]; rfl)) ?_; (with_reducible refine (reals_exact_round.calls k t158 t159 t160 t161 t162 t156 a1 t163 t164 t165 _ A10.out).mono ?_); rintro e w14 ⟨rfl, hb⟩; refine ⟨_, rfl, ?_⟩; replace BK155 := Aside0.mk (bb BK155 hb); replace HB := Aside0.mk (below_step (bw HB) hb); (try clear hb); (try clear hb2); (try clear hk); (try clear hi); obtain ⟨hcz15_0, hcz15_1, hfz15_0, hfz15_1⟩ := cf2 BK155))
  refine bodyPost_ret (results_ct rfl _ _ gb155 29 #[.int .i64 t163, .int .i64 t164] (0, 0) _ rfl (by (with_reducible repeat (first | refine blk_drewN ?_ _ | refine blk_drew ?_ | refine blk_alloc ?_ _)); refine blk_put (cs := #[.int .i64 t163, .int .i64 0]) ?_ 1 _ rfl; (with_reducible repeat (first | refine blk_drewN ?_ _ | refine blk_drew ?_ | refine blk_alloc ?_ _)); refine blk_put (cs := #[.int .i64 0, .int .i64 0]) ?_ 0 _ rfl; (with_reducible repeat (first | refine blk_drewN ?_ _ | refine blk_drew ?_ | refine blk_alloc ?_ _)); exact BK155.out) Try.underlying29 rfl (by kernel_rfl)) rfl ?_
  exact ⟨by first | rfl | (simp [errW_none, errW_some] <;> rfl) | (simp only [← hji7, ← hji8]; first | rfl | (simp [errW_none, errW_some] <;> rfl)) | (simp [*, errW_none, errW_some] <;> rfl), bw HB⟩
 ·rw [if_neg c6] at H
  have c6b0 : (t157 == 0) = false := beq_eq_false_iff_ne.mpr c6
  have c6b1 : (t157 != 0) = true := bne_iff_ne.mpr c6
  simp only [Option.some.injEq, Prod.mk.injEq] at H
  obtain ⟨rfl, rfl, rfl⟩ := H
  go_enter Try.func17, Try.ntmps17
  go_wp2_with (first | ((with_reducible refine gate_dst (N := 8) rfl ?_); refine box_event ?hg (N := 8) ?hd (cs := #[.int .i64 0, .int .i64 0]) (t := 29) ?hr ?_; (case hd => rfl); (case hg => rfl); (case hr => first | (go_simp; done) | (go_simp; rfl)); intro gb155 hg w16 hbox hb; have BK155 := Aside0.mk (hbox); have GW155 := Aside0.mk (bs HB hg : w.heap.size ≤ gb155); replace HB := Aside0.mk (below_step (bw HB) hb); clear hb hbox hg) | ((with_reducible refine gate_callee (f := 50) rfl ?_); refine goesL_ (some 15) rfl rfl Try.func50 (by kernel_rfl) rfl #[.int .i64 a0, .int .i64 a1, .slice none 0 0] rfl (by (try simp only [List.map_toArray, List.map_cons, List.map_nil]); first | done | rfl | (simp only [List.length_drop, List.length_take]; rfl)) ?_; (refine (reals_check.calls k a0 a1 _ _ ([] : List (S29)) t156 t157 _ ?side1 ?side2 A5.out).mono ?_); (case side1 => exact Kd.C_nil _ _); (case side2 => exact Nat.le_refl _); rintro e w17 ⟨rfl, hb⟩; refine ⟨_, rfl, ?_⟩; replace BK155 := Aside0.mk (bb BK155 hb); replace HB := Aside0.mk (below_step (bw HB) hb); (try clear hb); (try clear hb2); (try clear hk); (try clear hi); obtain ⟨hcz18_0, hcz18_1, hfz18_0, hfz18_1⟩ := cf2 BK155))
  refine bodyPost_ret (results_ct rfl _ _ gb155 29 #[.int .i64 0, .int .i64 0] (0, 0) _ rfl (by (with_reducible repeat (first | refine blk_drewN ?_ _ | refine blk_drew ?_ | refine blk_alloc ?_ _)); refine blk_put (cs := #[.int .i64 0, .int .i64 0]) ?_ 1 _ rfl; (with_reducible repeat (first | refine blk_drewN ?_ _ | refine blk_drew ?_ | refine blk_alloc ?_ _)); refine blk_put (cs := #[.int .i64 0, .int .i64 0]) ?_ 0 _ rfl; (with_reducible repeat (first | refine blk_drewN ?_ _ | refine blk_drew ?_ | refine blk_alloc ?_ _)); exact BK155.out) Try.underlying29 rfl (by kernel_rfl)) rfl ?_
  exact ⟨by first | rfl | (simp [errW_none, errW_some] <;> rfl) | (simp [*, errW_none, errW_some] <;> rfl), bw HB⟩

/-! ### reals_sum: function 56 -/
/-- the boxes of sum: its two numbers, the answer, the sum and the small number -/
structure SumW (w w' : World) (X Y R O S : Array Value) : Prop where
 x : w'.heap[w.heap.size]? = some (.cells X 63 (0, 0))
 y : w'.heap[w.heap.size + 1]? = some (.cells Y 63 (0, 0))
 r : w'.heap[w.heap.size + 2]? = some (.cells R 63 (0, 0))
 o : w'.heap[w.heap.size + 3]? = some (.cells O 63 (0, 0))
 s : w'.heap[w.heap.size + 4]? = some (.cells S 55 (0, 0))
 b : Below w.heap.size w w'
theorem SumW.next {w w' w2 : World} {X Y R O S : Array Value} (h : SumW w w' X Y R O S) (hb : Below w'.heap.size w' w2) : SumW w w2 X Y R O S := ⟨blk_below h.x hb, blk_below h.y hb, blk_below h.r hb, blk_below h.o hb, blk_below h.s hb, below_step h.b hb⟩
theorem SumW.drew {w w' : World} {X Y R O S : Array Value} (h : SumW w w' X Y R O S) : SumW w w'.drew X Y R O S := ⟨h.x, h.y, h.r, h.o, h.s, below_drew1 h.b⟩
theorem sum_new (w : World) (X Y R O S : Array Value) : SumW w (((((w.alloc (.cells X 63)).alloc (.cells Y 63)).alloc (.cells R 63)).alloc (.cells O 63)).alloc (.cells S 55)) X Y R O S := by
 refine ⟨?_, ?_, ?_, ?_, ?_, ?_⟩
 ·exact blk_alloc (blk_alloc (blk_alloc (blk_alloc (blk_new w _) _) _) _) _
 ·have h := blk_alloc (blk_alloc (blk_alloc (blk_new (w.alloc (.cells X 63)) (.cells Y 63)) (.cells R 63)) (.cells O 63)) (.cells S 55)
  simpa using h
 ·have h := blk_alloc (blk_alloc (blk_new ((w.alloc (.cells X 63)).alloc (.cells Y 63)) (.cells R 63)) (.cells O 63)) (.cells S 55)
  simpa using h
 ·have h := blk_alloc (blk_new (((w.alloc (.cells X 63)).alloc (.cells Y 63)).alloc (.cells R 63)) (.cells O 63)) (.cells S 55)
  simpa using h
 ·have h := blk_new ((((w.alloc (.cells X 63)).alloc (.cells Y 63)).alloc (.cells R 63)).alloc (.cells O 63)) (.cells S 55)
  simpa using h
 ·exact below_alloc (below_alloc (below_alloc (below_alloc (below_alloc (Below.refl _ _) _) _) _) _) _
theorem SumW.setO {w w' : World} {X Y R O S O' : Array Value} (h : SumW w w' X Y R O S) (i : Nat) (v : Value) (e : O.setIfInBounds i v = O') : SumW w (w'.setCell ⟨w.heap.size + 3, i, none⟩ v) X Y R O' S :=
 ⟨blk_far h.x (by simp) _, blk_far h.y (by simp) _, blk_far h.r (by simp) _, blk_put h.o i v e, blk_far h.s (by simp) _, below_set h.b (by simp)⟩
theorem SumW.setO1 {w w' : World} {X Y R O S O' : Array Value} (h : SumW w w' X Y R O S) (i : Nat) (v : Value) (e : O.setIfInBounds i v = O') : SumW w (w'.setCell ⟨w.heap.size + 1 + 1 + 1, i, none⟩ v) X Y R O' S := h.setO i v e
theorem SumW.setS {w w' : World} {X Y R O S S' : Array Value} (h : SumW w w' X Y R O S) (i : Nat) (v : Value) (e : S.setIfInBounds i v = S') : SumW w (w'.setCell ⟨w.heap.size + 4, i, none⟩ v) X Y R O S' :=
 ⟨blk_far h.x (by simp) _, blk_far h.y (by simp) _, blk_far h.r (by simp) _, blk_far h.o (by simp) _, blk_put h.s i v e, below_set h.b (by simp)⟩
theorem SumW.setR {w w' : World} {X Y R O S R' : Array Value} (h : SumW w w' X Y R O S) (i : Nat) (v : Value) (e : R.setIfInBounds i v = R') : SumW w (w'.setCell ⟨w.heap.size + 2, i, none⟩ v) X Y R' O S :=
 ⟨blk_far h.x (by simp) _, blk_far h.y (by simp) _, blk_put h.r i v e, blk_far h.o (by simp) _, blk_far h.s (by simp) _, below_set h.b (by simp)⟩
theorem sum_s {w w' : World} {xn xm : Bool} {XH XL xe : Int} (h : w'.heap[w.heap.size]? = some (.cells #[.bool xn, .int .u64 XH, .int .u64 XL, .int .i64 xe, .bool xm] 63 (0, 0))) :
  (w'.cell? ⟨w.heap.size, 1, none⟩ = some (.int .u64 XH) ∧ w'.cell? ⟨w.heap.size, 2, none⟩ = some (.int .u64 XL) ∧ w'.cell? ⟨w.heap.size, 3, none⟩ = some (.int .i64 xe)) ∧ Aside0 (w'.heap[w.heap.size]? = some (.cells #[.bool xn, .int .u64 XH, .int .u64 XL, .int .i64 xe, .bool xm] 63 (0, 0))) :=
 ⟨⟨(blk_cell h 1).trans rfl, (blk_cell h 2).trans rfl, (blk_cell h 3).trans rfl⟩, ⟨h⟩⟩
theorem SumW.cells {w w' : World} {xn yn on om xm ym : Bool} {XH XL xe YH YL ye O0 O1 oe S0 S1 : Int} {R : Array Value} (h : SumW w w' #[.bool xn, .int .u64 XH, .int .u64 XL, .int .i64 xe, .bool xm] #[.bool yn, .int .u64 YH, .int .u64 YL, .int .i64 ye, .bool ym] R #[.bool on, .int .u64 O0, .int .u64 O1, .int .i64 oe, .bool om] #[.int .u64 S0, .int .u64 S1]) :
  (w'.cell? ⟨w.heap.size, 0, none⟩ = some (.bool xn) ∧ w'.cell? ⟨w.heap.size, 1, none⟩ = some (.int .u64 XH) ∧ w'.cell? ⟨w.heap.size, 2, none⟩ = some (.int .u64 XL) ∧ w'.cell? ⟨w.heap.size, 3, none⟩ = some (.int .i64 xe)) ∧
  (w'.cell? ⟨w.heap.size + 1, 0, none⟩ = some (.bool yn) ∧ w'.cell? ⟨w.heap.size + 1, 1, none⟩ = some (.int .u64 YH) ∧ w'.cell? ⟨w.heap.size + 1, 2, none⟩ = some (.int .u64 YL)) ∧
  (w'.cell? ⟨w.heap.size + 3, 0, none⟩ = some (.bool on) ∧ w'.cell? ⟨w.heap.size + 3, 1, none⟩ = some (.int .u64 O0) ∧ w'.cell? ⟨w.heap.size + 3, 2, none⟩ = some (.int .u64 O1) ∧ w'.cell? ⟨w.heap.size + 3, 3, none⟩ = some (.int .i64 oe) ∧ w'.cell? ⟨w.heap.size + 3, 4, none⟩ = some (.bool om)) ∧
  (w'.frozen? ⟨w.heap.size + 3, 0, none⟩ = false ∧ w'.frozen? ⟨w.heap.size + 3, 1, none⟩ = false ∧ w'.frozen? ⟨w.heap.size + 3, 2, none⟩ = false ∧ w'.frozen? ⟨w.heap.size + 3, 3, none⟩ = false ∧ w'.frozen? ⟨w.heap.size + 3, 4, none⟩ = false) ∧
  w'.cell? ⟨w.heap.size + 4, 0, none⟩ = some (.int .u64 S0) ∧ w'.cell? ⟨w.heap.size + 4, 1, none⟩ = some (.int .u64 S1) ∧ w'.frozen? ⟨w.heap.size + 4, 0, none⟩ = false ∧ w'.frozen? ⟨w.heap.size + 4, 1, none⟩ = false :=
 ⟨⟨(blk_cell h.x 0).trans rfl, (blk_cell h.x 1).trans rfl, (blk_cell h.x 2).trans rfl, (blk_cell h.x 3).trans rfl⟩, ⟨(blk_cell h.y 0).trans rfl, (blk_cell h.y 1).trans rfl, (blk_cell h.y 2).trans rfl⟩, ⟨(blk_cell h.o 0).trans rfl, (blk_cell h.o 1).trans rfl, (blk_cell h.o 2).trans rfl, (blk_cell h.o 3).trans rfl, (blk_cell h.o 4).trans rfl⟩,
  ⟨blk_frozen h.o 0, blk_frozen h.o 1, blk_frozen h.o 2, blk_frozen h.o 3, blk_frozen h.o 4⟩, (blk_cell h.s 0).trans rfl, (blk_cell h.s 1).trans rfl, blk_frozen h.s 0, blk_frozen h.s 1⟩
theorem SumW.rcells {w w' : World} {X Y O S : Array Value} (h : SumW w w' X Y #[.bool false, .int .u64 0, .int .u64 0, .int .i64 0, .bool false] O S) : (w'.cell? ⟨w.heap.size + 2, 0, none⟩ = some (.bool false) ∧ w'.cell? ⟨w.heap.size + 2, 1, none⟩ = some (.int .u64 0) ∧ w'.cell? ⟨w.heap.size + 2, 2, none⟩ = some (.int .u64 0) ∧ w'.cell? ⟨w.heap.size + 2, 3, none⟩ = some (.int .i64 0) ∧ w'.cell? ⟨w.heap.size + 2, 4, none⟩ = some (.bool false)) ∧ w'.frozen? ⟨w.heap.size + 2, 0, none⟩ = false ∧ w'.frozen? ⟨w.heap.size + 2, 1, none⟩ = false ∧ w'.frozen? ⟨w.heap.size + 2, 2, none⟩ = false ∧ w'.frozen? ⟨w.heap.size + 2, 3, none⟩ = false ∧ w'.frozen? ⟨w.heap.size + 2, 4, none⟩ = false :=
 ⟨⟨(blk_cell h.r 0).trans rfl, (blk_cell h.r 1).trans rfl, (blk_cell h.r 2).trans rfl, (blk_cell h.r 3).trans rfl, (blk_cell h.r 4).trans rfl⟩, blk_frozen h.r 0, blk_frozen h.r 1, blk_frozen h.r 2, blk_frozen h.r 3, blk_frozen h.r 4⟩
theorem sum_s8 {w w' : World} {yn ym : Bool} {YH YL ye M0 M1 : Int} (h : w'.heap[w.heap.size + 1]? = some (.cells #[.bool yn, .int .u64 YH, .int .u64 YL, .int .i64 ye, .bool ym] 63 (0, 0))) (h2 : w'.heap[w.heap.size + 4]? = some (.cells #[.int .u64 M0, .int .u64 M1] 55 (0, 0))) :
  (w'.cell? ⟨w.heap.size + 1, 0, none⟩ = some (.bool yn) ∧ w'.cell? ⟨w.heap.size + 4, 0, none⟩ = some (.int .u64 M0) ∧ w'.cell? ⟨w.heap.size + 4, 1, none⟩ = some (.int .u64 M1)) ∧ Aside0 (w'.heap[w.heap.size + 1]? = some (.cells #[.bool yn, .int .u64 YH, .int .u64 YL, .int .i64 ye, .bool ym] 63 (0, 0))) ∧ Aside0 (w'.heap[w.heap.size + 4]? = some (.cells #[.int .u64 M0, .int .u64 M1] 55 (0, 0))) :=
 ⟨⟨(blk_cell h 0).trans rfl, (blk_cell h2 0).trans rfl, (blk_cell h2 1).trans rfl⟩, ⟨h⟩, ⟨h2⟩⟩
theorem SumW.setR1 {w w' : World} {X Y R O S R' : Array Value} (h : SumW w w' X Y R O S) (i : Nat) (v : Value) (e : R.setIfInBounds i v = R') : SumW w (w'.setCell ⟨w.heap.size + 1 + 1, i, none⟩ v) X Y R' O S := h.setR i v e
theorem sum_fin {w w' : World} {X Y O S : Array Value} {rn mo : Bool} {R0 R1 E : Int} (h : SumW w w' X Y #[.bool rn, .int .u64 R0, .int .u64 R1, .int .i64 E, .bool mo] O S) : w'.cell? ⟨w.heap.size + 1 + 1, 0, none⟩ = some (.bool rn) ∧ w'.cell? ⟨w.heap.size + 1 + 1, 1, none⟩ = some (.int .u64 R0) ∧ w'.cell? ⟨w.heap.size + 1 + 1, 2, none⟩ = some (.int .u64 R1) ∧ w'.cell? ⟨w.heap.size + 1 + 1, 3, none⟩ = some (.int .i64 E) ∧ w'.cell? ⟨w.heap.size + 1 + 1, 4, none⟩ = some (.bool mo) :=
 ⟨(blk_cell h.r 0).trans rfl, (blk_cell h.r 1).trans rfl, (blk_cell h.r 2).trans rfl, (blk_cell h.r 3).trans rfl, (blk_cell h.r 4).trans rfl⟩
theorem ne1 (n : Nat) : n ≠ n + 1 := by omega
theorem ne3 (n : Nat) : n ≠ n + 1 + 1 + 1 := by omega
theorem ne31 (n : Nat) : n + 1 ≠ n + 1 + 1 + 1 := by omega
theorem ne34 (n : Nat) : n + 1 + 1 + 1 + 1 ≠ n + 1 + 1 + 1 := by omega
theorem ne43 (n : Nat) : n + 4 ≠ n + 3 := by omega
theorem ne13 (n : Nat) : n + 1 ≠ n + 3 := by omega
def SumP (rn : Bool) (R0 R1 E : Int) (mo : Bool) (w : World) (e : Ending) (w' : World) : Prop := e = .returned (.agg #[.bool rn, .int .u64 R0, .int .u64 R1, .int .i64 E, .bool mo]) ∧ Below w.heap.size w w'
theorem sum_end {w w' : World} {X Y R O S : Array Value} {rn mo : Bool} {R0 R1 E : Int} (h : SumW w w' X Y R O S) : SumP rn R0 R1 E mo w (.returned (.agg #[.bool rn, .int .u64 R0, .int .u64 R1, .int .i64 E, .bool mo])) w' := ⟨rfl, h.b⟩
set_option maxHeartbeats 8000000 in
set_option maxRecDepth 100000 in
theorem sum_main (xn : Bool) (xe : Int) (yn : Bool) (ye : Int) (w : World) (XH XL YH YL : Int) (h0 : 0 ≤ xe - ye) (h1 : xe - ye ≤ 100000) (h2 : -100000 ≤ xe) (h3 : xe ≤ 100000) (C0 C1 E M0 M1 : Int) (mo : Bool)
  (hA : xe - ye ≤ 19 → reals_wide_scaled.f 40 XH XL (xe - ye) = some (C0, C1) ∧ E = ye ∧ M0 = YH ∧ M1 = YL ∧ mo = false) (hB : ¬ xe - ye ≤ 19 → reals_wide_scaled.f 40 XH XL 19 = some (C0, C1) ∧ E = xe - 19 ∧ ∃ hf, reals_wide_cut.f YH YL (xe - ye - 19) false = some (M0, M1, hf, mo))
  (rn : Bool) (R0 R1 : Int)
  (hR : (xn = yn ∧ rn = xn ∧ reals_wide_plus.f C0 C1 M0 M1 = some (R0, R1)) ∨ ((xn == yn) = false ∧ ∃ c, reals_wide_compare.f C0 C1 M0 M1 = some c ∧ ((0 ≤ c ∧ ((mo = false ∧ rn = xn ∧ reals_wide_minus.f C0 C1 M0 M1 = some (R0, R1)) ∨ (mo = true ∧ ¬ (C0 = M0 ∧ C1 = M1) ∧ rn = xn ∧ ∃ S0 S1, reals_wide_minus.f C0 C1 M0 M1 = some (S0, S1) ∧ reals_wide_minus.f S0 S1 0 1 = some (R0, R1)))) ∨ ((c < 0 ∨ (0 ≤ c ∧ mo = true ∧ C0 = M0 ∧ C1 = M1)) ∧ rn = yn ∧ reals_wide_minus.f M0 M1 C0 C1 = some (R0, R1))))) :
  Calls Try.prog 56 #[.agg #[.bool xn, .int .u64 XH, .int .u64 XL, .int .i64 xe, .bool false], .agg #[.bool yn, .int .u64 YH, .int .u64 YL, .int .i64 ye, .bool false]] w (SumP rn R0 R1 E mo w) := by
 have hu := Try.underlying55
 have hu2 := Try.underlying63
 go_enter Try.func56, Try.ntmps56
 go_upto_region 3 with fail
 go_cut [7] (fun s7 wx => s7 = .pointer (some ⟨w.heap.size + 4, 0, none⟩) ∧ Aside0 (SumW w wx #[.bool xn, .int .u64 XH, .int .u64 XL, .int .i64 xe, .bool false] #[.bool yn, .int .u64 YH, .int .u64 YL, .int .i64 ye, .bool false] #[.bool false, .int .u64 0, .int .u64 0, .int .i64 0, .bool false] #[.bool xn, .int .u64 0, .int .u64 0, .int .i64 ye, .bool false] #[.int .u64 YH, .int .u64 YL]))
 case first =>
  go_wp2_with fail
  go_meet
  exact ⟨by simp only [Nat.add_assoc], ⟨sum_new w _ _ _ _ _⟩⟩
 case rest =>
  obtain ⟨rfl, HW⟩ := hcut
  have HA := Aside0.mk hA; have HB := Aside0.mk hB
  have HR := Aside0.mk hR
  clear hA hB hR
  obtain ⟨⟨x0, x1, x2, x3⟩, ⟨y0, y1, y2⟩, ⟨o0, o1, o2, o3, o4⟩, ⟨f0, f1, f2, f3, f4⟩, s0, s1, g0, g1⟩ := HW.out.cells
  go_upto_if 21 with fail
  go_cut [] (fun wx => Aside0 (SumW w wx #[.bool xn, .int .u64 XH, .int .u64 XL, .int .i64 xe, .bool false] #[.bool yn, .int .u64 YH, .int .u64 YL, .int .i64 ye, .bool false] #[.bool false, .int .u64 0, .int .u64 0, .int .i64 0, .bool false] #[.bool xn, .int .u64 C0, .int .u64 C1, .int .i64 E, .bool mo] #[.int .u64 M0, .int .u64 M1]))
  case first =>
   by_cases h19 : xe - ye ≤ 19
   ·obtain ⟨hs, rfl, rfl, rfl, rfl⟩ := HA.out h19
    have HS := Aside0.mk hs
    clear hs
    go_wp2_with (go_at_call 60; (with_reducible refine (reals_wide_scaled.calls 40 XH XL _ C0 C1 _ HS.out).mono ?_); rintro e w1 ⟨rfl, hb⟩; have HN := Aside0.mk (HW.out.next hb); clear hb x0 x1 x2 x3 y0 y1 y2 o0 o1 o2 o3 o4 f0 f1 f2 f3 f4 s0 s1 g0 g1 HW; have HW := HN; clear HN; obtain ⟨⟨x0, x1, x2, x3⟩, ⟨y0, y1, y2⟩, ⟨o0, o1, o2, o3, o4⟩, ⟨f0, f1, f2, f3, f4⟩, s0, s1, g0, g1⟩ := HW.out.cells)
    go_meet
    exact ⟨(HW.out.setO 1 _ rfl).setO 2 _ rfl⟩
   ·obtain ⟨hs, rfl, hf, hk⟩ := HB.out h19
    have HS := Aside0.mk hs; have HK := Aside0.mk hk
    clear hs hk HA HB
    have ew : IntKind.i64.wrap (xe - 19) = xe - 19 := IntWalk.i64_in _ (by omega)
    go_upto_region 6 with fail
    go_region_held3 (fun w' => (w'.cell? ⟨w.heap.size, 1, none⟩ = some (.int .u64 XH) ∧ w'.cell? ⟨w.heap.size, 2, none⟩ = some (.int .u64 XL) ∧ w'.cell? ⟨w.heap.size, 3, none⟩ = some (.int .i64 xe)) ∧ Aside0 (w'.heap[w.heap.size]? = some (.cells #[.bool xn, .int .u64 XH, .int .u64 XL, .int .i64 xe, .bool false] 63 (0, 0)))) (((refine sum_s ?_); (first | exact HW.out.x | exact HW.out.drew.x | exact blk_far (blk_far HW.out.x (ne3 _) _) (ne3 _) _ | exact blk_far (blk_far (blk_far HW.out.x (ne3 _) _) (ne3 _) _) (ne3 _) _))) (first | (go_at_call 60; (with_reducible refine (reals_wide_scaled.calls 40 XH XL _ C0 C1 _ HS.out).mono ?_); rintro e w1 ⟨rfl, hb⟩; have HN := Aside0.mk (HW.out.drew.next hb); clear hb x0 x1 x2 x3 y0 y1 y2 o0 o1 o2 o3 o4 f0 f1 f2 f3 f4 s0 s1 g0 g1 HW; have HW := HN; clear HN; obtain ⟨⟨x0, x1, x2, x3⟩, ⟨y0, y1, y2⟩, ⟨o0, o1, o2, o3, o4⟩, ⟨f0, f1, f2, f3, f4⟩, s0, s1, g0, g1⟩ := HW.out.cells))
    have HN := Aside0.mk (((HW.out.setO1 1 (.int .u64 C0) rfl).setO1 2 (.int .u64 C1) rfl).setO1 3 (.int .i64 (xe - 19)) rfl)
    clear x0 x1 x2 x3 y0 y1 y2 o0 o1 o2 o3 o4 f0 f1 f2 f3 f4 s0 s1 g0 g1 HW ew
    generalize (((w1.setCell ⟨w.heap.size + 1 + 1 + 1, 1, none⟩ (.int .u64 C0)).setCell ⟨w.heap.size + 1 + 1 + 1, 2, none⟩ (.int .u64 C1)).setCell ⟨w.heap.size + 1 + 1 + 1, 3, none⟩ (.int .i64 (xe - 19))) = w9 at HN ⊢
    have HW := HN
    clear HN
    obtain ⟨⟨x0, x1, x2, x3⟩, ⟨y0, y1, y2⟩, ⟨o0, o1, o2, o3, o4⟩, ⟨f0, f1, f2, f3, f4⟩, s0, s1, g0, g1⟩ := HW.out.cells
    go_wp2_with (go_at_call 76; (with_reducible refine (reals_wide_cut.calls YH YL (xe - ye - 19) false M0 M1 hf mo _ HK.out).mono ?_); rintro e w2 ⟨rfl, hb⟩; have HN := Aside0.mk (HW.out.next hb); clear hb x0 x1 x2 x3 y0 y1 y2 o0 o1 o2 o3 o4 f0 f1 f2 f3 f4 s0 s1 g0 g1 HW; have HW := HN; clear HN; obtain ⟨⟨x0, x1, x2, x3⟩, ⟨y0, y1, y2⟩, ⟨o0, o1, o2, o3, o4⟩, ⟨f0, f1, f2, f3, f4⟩, s0, s1, g0, g1⟩ := HW.out.cells)
    go_meet
    exact ⟨((HW.out.setS 0 _ rfl).setS 1 _ rfl).setO 4 _ rfl⟩
  case rest =>
   have HW := hcut
   clear hcut HA HB x0 x1 x2 x3 y0 y1 y2 o0 o1 o2 o3 o4 f0 f1 f2 f3 f4 s0 s1 g0 g1
   obtain ⟨⟨x0, x1, x2, x3⟩, ⟨y0, y1, y2⟩, ⟨o0, o1, o2, o3, o4⟩, ⟨f0, f1, f2, f3, f4⟩, s0, s1, g0, g1⟩ := HW.out.cells
   rcases HR.out with ⟨hn, rfl, hp⟩ | ⟨hne, c, hc, hq⟩
   ·subst hn
    have HP := Aside0.mk hp
    clear hp HR
    go_wp2_with (go_at_call 78; (with_reducible refine (reals_wide_plus.calls C0 C1 M0 M1 R0 R1 _ HP.out).mono ?_); rintro e w2 ⟨rfl, hb⟩; have HN := Aside0.mk (((HW.out.next hb).setO1 1 (.int .u64 R0) rfl).setO1 2 (.int .u64 R1) rfl); have HM := Aside0.mk (HW.out.next hb); clear hb x0 x1 x2 x3 y0 y1 y2 o0 o1 o2 o3 o4 f0 f1 f2 f3 f4 s0 s1 g0 g1 HW; have HW := HN; clear HN; obtain ⟨⟨x0, x1, x2, x3⟩, ⟨y0, y1, y2⟩, ⟨o0, o1, o2, o3, o4⟩, ⟨f0, f1, f2, f3, f4⟩, s0, s1, g0, g1⟩ := HM.out.cells; obtain ⟨⟨r0, r1, r2, r3, r4⟩, q0, q1, q2, q3, q4⟩ := HM.out.rcells)
    have HQ := Aside0.mk (((((HW.out.setR1 0 (.bool rn) rfl).setR1 1 (.int .u64 R0) rfl).setR1 2 (.int .u64 R1) rfl).setR1 3 (.int .i64 E) rfl).setR1 4 (.bool mo) rfl)
    obtain ⟨k0, k1, k2, k3, k4⟩ := sum_fin HQ.out
    exact bodyPost_ret (v := .agg #[.bool rn, .int .u64 R0, .int .u64 R1, .int .i64 E, .bool mo]) (by simp [results, Try.results56, go_sem, k0, k1, k2, k3, k4]) rfl (sum_end HQ.out)
   ·have HC := Aside0.mk hc
    clear hc HR
    rcases hq with ⟨hc0, hq⟩ | ⟨hq, hrn, hm⟩
    ·rcases hq with ⟨hmo, hrn, hm⟩ | ⟨hmo, hz, hrn, S0, S1, hm, hm2⟩
     ·subst hmo; subst hrn
      have HP := Aside0.mk hm
      clear hm
      go_wp2_with fail
      refine (reals_wide_compare.calls C0 C1 M0 M1 c _ HC.out).mono ?_
      rintro e w2 ⟨rfl, hb⟩
      have HN := Aside0.mk (HW.out.next hb)
      clear hb x0 x1 x2 x3 y0 y1 y2 o0 o1 o2 o3 o4 f0 f1 f2 f3 f4 s0 s1 g0 g1 HW; try clear r0 r1 r2 r3 r4 q0 q1 q2 q3 q4
      have HW := HN
      clear HN
      obtain ⟨⟨x0, x1, x2, x3⟩, ⟨y0, y1, y2⟩, ⟨o0, o1, o2, o3, o4⟩, ⟨f0, f1, f2, f3, f4⟩, s0, s1, g0, g1⟩ := HW.out.cells
      obtain ⟨⟨r0, r1, r2, r3, r4⟩, q0, q1, q2, q3, q4⟩ := HW.out.rcells
      go_wp2_with fail
      refine (reals_wide_minus.calls C0 C1 M0 M1 R0 R1 _ HP.out).mono ?_
      rintro e w2 ⟨rfl, hb⟩
      have HM := Aside0.mk (HW.out.next hb)
      have HN := Aside0.mk ((HM.out.setO1 1 (.int .u64 R0) rfl).setO1 2 (.int .u64 R1) rfl)
      clear hb x0 x1 x2 x3 y0 y1 y2 o0 o1 o2 o3 o4 f0 f1 f2 f3 f4 s0 s1 g0 g1 HW; try clear r0 r1 r2 r3 r4 q0 q1 q2 q3 q4
      have HW := HN
      clear HN
      obtain ⟨⟨x0, x1, x2, x3⟩, ⟨y0, y1, y2⟩, ⟨o0, o1, o2, o3, o4⟩, ⟨f0, f1, f2, f3, f4⟩, s0, s1, g0, g1⟩ := HM.out.cells
      obtain ⟨⟨r0, r1, r2, r3, r4⟩, q0, q1, q2, q3, q4⟩ := HM.out.rcells
      go_wp2
      have HQ := Aside0.mk (((((HW.out.setR1 0 (.bool rn) rfl).setR1 1 (.int .u64 R0) rfl).setR1 2 (.int .u64 R1) rfl).setR1 3 (.int .i64 E) rfl).setR1 4 (.bool false) rfl)
      obtain ⟨k0, k1, k2, k3, k4⟩ := sum_fin HQ.out
      exact bodyPost_ret (v := .agg #[.bool rn, .int .u64 R0, .int .u64 R1, .int .i64 E, .bool false]) (by simp [results, Try.results56, go_sem, k0, k1, k2, k3, k4]) rfl (sum_end HQ.out)
     ·subst hmo; subst hrn
      have HP := Aside0.mk hm
      have HP2 := Aside0.mk hm2
      clear hm hm2
      by_cases hz0 : C0 = M0
      ·have ez1 : (C1 == M1) = false := by rw [beq_eq_false_iff_ne]; exact fun h => hz ⟨hz0, h⟩
       have ez0 : (C0 == M0) = true := beq_iff_eq.2 hz0
       clear hz hz0
       go_wp2_with fail
       refine (reals_wide_compare.calls C0 C1 M0 M1 c _ HC.out).mono ?_
       rintro e w2 ⟨rfl, hb⟩
       have HN := Aside0.mk (HW.out.next hb)
       clear hb x0 x1 x2 x3 y0 y1 y2 o0 o1 o2 o3 o4 f0 f1 f2 f3 f4 s0 s1 g0 g1 HW; try clear r0 r1 r2 r3 r4 q0 q1 q2 q3 q4
       have HW := HN
       clear HN
       obtain ⟨⟨x0, x1, x2, x3⟩, ⟨y0, y1, y2⟩, ⟨o0, o1, o2, o3, o4⟩, ⟨f0, f1, f2, f3, f4⟩, s0, s1, g0, g1⟩ := HW.out.cells
       obtain ⟨⟨r0, r1, r2, r3, r4⟩, q0, q1, q2, q3, q4⟩ := HW.out.rcells
       go_wp2_with fail
       refine (reals_wide_minus.calls C0 C1 M0 M1 S0 S1 _ HP.out).mono ?_
       rintro e w2 ⟨rfl, hb⟩
       have HM := Aside0.mk (HW.out.next hb)
       have HN := Aside0.mk ((HM.out.setO1 1 (.int .u64 S0) rfl).setO1 2 (.int .u64 S1) rfl)
       clear hb x0 x1 x2 x3 y0 y1 y2 o0 o1 o2 o3 o4 f0 f1 f2 f3 f4 s0 s1 g0 g1 HW; try clear r0 r1 r2 r3 r4 q0 q1 q2 q3 q4
       have HW := HN
       clear HN
       obtain ⟨⟨x0, x1, x2, x3⟩, ⟨y0, y1, y2⟩, ⟨o0, o1, o2, o3, o4⟩, ⟨f0, f1, f2, f3, f4⟩, s0, s1, g0, g1⟩ := HM.out.cells
       obtain ⟨⟨r0, r1, r2, r3, r4⟩, q0, q1, q2, q3, q4⟩ := HM.out.rcells
       go_wp2_with fail
       refine (reals_wide_minus.calls S0 S1 0 1 R0 R1 _ HP2.out).mono ?_
       rintro e w2 ⟨rfl, hb⟩
       have HM := Aside0.mk (HW.out.next hb)
       have HN := Aside0.mk ((HM.out.setO1 1 (.int .u64 R0) rfl).setO1 2 (.int .u64 R1) rfl)
       clear hb x0 x1 x2 x3 y0 y1 y2 o0 o1 o2 o3 o4 f0 f1 f2 f3 f4 s0 s1 g0 g1 HW; try clear r0 r1 r2 r3 r4 q0 q1 q2 q3 q4
       have HW := HN
       clear HN
       obtain ⟨⟨x0, x1, x2, x3⟩, ⟨y0, y1, y2⟩, ⟨o0, o1, o2, o3, o4⟩, ⟨f0, f1, f2, f3, f4⟩, s0, s1, g0, g1⟩ := HM.out.cells
       obtain ⟨⟨r0, r1, r2, r3, r4⟩, q0, q1, q2, q3, q4⟩ := HM.out.rcells
       go_wp2
       have HQ := Aside0.mk (((((HW.out.setR1 0 (.bool rn) rfl).setR1 1 (.int .u64 R0) rfl).setR1 2 (.int .u64 R1) rfl).setR1 3 (.int .i64 E) rfl).setR1 4 (.bool true) rfl)
       obtain ⟨k0, k1, k2, k3, k4⟩ := sum_fin HQ.out
       exact bodyPost_ret (v := .agg #[.bool rn, .int .u64 R0, .int .u64 R1, .int .i64 E, .bool true]) (by simp [results, Try.results56, go_sem, k0, k1, k2, k3, k4]) rfl (sum_end HQ.out)
      ·have ez1 : (C0 == M0) = false := by rw [beq_eq_false_iff_ne]; exact hz0
       clear hz hz0
       go_wp2_with fail
       refine (reals_wide_compare.calls C0 C1 M0 M1 c _ HC.out).mono ?_
       rintro e w2 ⟨rfl, hb⟩
       have HN := Aside0.mk (HW.out.next hb)
       clear hb x0 x1 x2 x3 y0 y1 y2 o0 o1 o2 o3 o4 f0 f1 f2 f3 f4 s0 s1 g0 g1 HW; try clear r0 r1 r2 r3 r4 q0 q1 q2 q3 q4
       have HW := HN
       clear HN
       obtain ⟨⟨x0, x1, x2, x3⟩, ⟨y0, y1, y2⟩, ⟨o0, o1, o2, o3, o4⟩, ⟨f0, f1, f2, f3, f4⟩, s0, s1, g0, g1⟩ := HW.out.cells
       obtain ⟨⟨r0, r1, r2, r3, r4⟩, q0, q1, q2, q3, q4⟩ := HW.out.rcells
       go_wp2_with fail
       refine (reals_wide_minus.calls C0 C1 M0 M1 S0 S1 _ HP.out).mono ?_
       rintro e w2 ⟨rfl, hb⟩
       have HM := Aside0.mk (HW.out.next hb)
       have HN := Aside0.mk ((HM.out.setO1 1 (.int .u64 S0) rfl).setO1 2 (.int .u64 S1) rfl)
       clear hb x0 x1 x2 x3 y0 y1 y2 o0 o1 o2 o3 o4 f0 f1 f2 f3 f4 s0 s1 g0 g1 HW; try clear r0 r1 r2 r3 r4 q0 q1 q2 q3 q4
       have HW := HN
       clear HN
       obtain ⟨⟨x0, x1, x2, x3⟩, ⟨y0, y1, y2⟩, ⟨o0, o1, o2, o3, o4⟩, ⟨f0, f1, f2, f3, f4⟩, s0, s1, g0, g1⟩ := HM.out.cells
       obtain ⟨⟨r0, r1, r2, r3, r4⟩, q0, q1, q2, q3, q4⟩ := HM.out.rcells
       go_wp2_with fail
       refine (reals_wide_minus.calls S0 S1 0 1 R0 R1 _ HP2.out).mono ?_
       rintro e w2 ⟨rfl, hb⟩
       have HM := Aside0.mk (HW.out.next hb)
       have HN := Aside0.mk ((HM.out.setO1 1 (.int .u64 R0) rfl).setO1 2 (.int .u64 R1) rfl)
       clear hb x0 x1 x2 x3 y0 y1 y2 o0 o1 o2 o3 o4 f0 f1 f2 f3 f4 s0 s1 g0 g1 HW; try clear r0 r1 r2 r3 r4 q0 q1 q2 q3 q4
       have HW := HN
       clear HN
       obtain ⟨⟨x0, x1, x2, x3⟩, ⟨y0, y1, y2⟩, ⟨o0, o1, o2, o3, o4⟩, ⟨f0, f1, f2, f3, f4⟩, s0, s1, g0, g1⟩ := HM.out.cells
       obtain ⟨⟨r0, r1, r2, r3, r4⟩, q0, q1, q2, q3, q4⟩ := HM.out.rcells
       go_wp2
       have HQ := Aside0.mk (((((HW.out.setR1 0 (.bool rn) rfl).setR1 1 (.int .u64 R0) rfl).setR1 2 (.int .u64 R1) rfl).setR1 3 (.int .i64 E) rfl).setR1 4 (.bool true) rfl)
       obtain ⟨k0, k1, k2, k3, k4⟩ := sum_fin HQ.out
       exact bodyPost_ret (v := .agg #[.bool rn, .int .u64 R0, .int .u64 R1, .int .i64 E, .bool true]) (by simp [results, Try.results56, go_sem, k0, k1, k2, k3, k4]) rfl (sum_end HQ.out)
    ·subst hrn
     have HP := Aside0.mk hm
     clear hm
     rcases hq with hc0 | ⟨hc0, hmo, hz0, hz1⟩
     ·go_wp2_with fail
      refine (reals_wide_compare.calls C0 C1 M0 M1 c _ HC.out).mono ?_
      rintro e w2 ⟨rfl, hb⟩
      have HN := Aside0.mk (HW.out.next hb)
      clear hb x0 x1 x2 x3 y0 y1 y2 o0 o1 o2 o3 o4 f0 f1 f2 f3 f4 s0 s1 g0 g1 HW; try clear r0 r1 r2 r3 r4 q0 q1 q2 q3 q4
      have HW := HN
      clear HN
      obtain ⟨⟨x0, x1, x2, x3⟩, ⟨y0, y1, y2⟩, ⟨o0, o1, o2, o3, o4⟩, ⟨f0, f1, f2, f3, f4⟩, s0, s1, g0, g1⟩ := HW.out.cells
      obtain ⟨⟨r0, r1, r2, r3, r4⟩, q0, q1, q2, q3, q4⟩ := HW.out.rcells
      go_upto_region 8 with fail
      go_region_with (first | (go_at_call 80; (with_reducible refine (reals_wide_minus.calls M0 M1 C0 C1 R0 R1 _ HP.out).mono ?_); rintro e w3 ⟨rfl, hb⟩; have HN := Aside0.mk (HW.out.drew.next hb); clear hb x0 x1 x2 x3 y0 y1 y2 o0 o1 o2 o3 o4 f0 f1 f2 f3 f4 s0 s1 g0 g1 r0 r1 r2 r3 r4 q0 q1 q2 q3 q4 HW; have HW := HN; clear HN; obtain ⟨⟨x0, x1, x2, x3⟩, ⟨y0, y1, y2⟩, ⟨o0, o1, o2, o3, o4⟩, ⟨f0, f1, f2, f3, f4⟩, s0, s1, g0, g1⟩ := HW.out.cells; obtain ⟨⟨r0, r1, r2, r3, r4⟩, q0, q1, q2, q3, q4⟩ := HW.out.rcells))
      all_goals
       have HN := Aside0.mk (((HW.out.setO1 1 (.int .u64 R0) rfl).setO1 2 (.int .u64 R1) rfl).setO1 0 (.bool rn) rfl)
       clear HW
       have HW := HN
       clear HN
       go_wp2
       have HQ := Aside0.mk (((((HW.out.setR1 0 (.bool rn) rfl).setR1 1 (.int .u64 R0) rfl).setR1 2 (.int .u64 R1) rfl).setR1 3 (.int .i64 E) rfl).setR1 4 (.bool mo) rfl)
       obtain ⟨k0, k1, k2, k3, k4⟩ := sum_fin HQ.out
       exact bodyPost_ret (v := .agg #[.bool rn, .int .u64 R0, .int .u64 R1, .int .i64 E, .bool mo]) (by simp [results, Try.results56, go_sem, k0, k1, k2, k3, k4]) rfl (sum_end HQ.out)
     ·subst hmo
      have ez0 : (C0 == M0) = true := beq_iff_eq.2 hz0
      have ez1 : (C1 == M1) = true := beq_iff_eq.2 hz1
      clear hz0 hz1
      go_wp2_with fail
      refine (reals_wide_compare.calls C0 C1 M0 M1 c _ HC.out).mono ?_
      rintro e w2 ⟨rfl, hb⟩
      have HN := Aside0.mk (HW.out.next hb)
      clear hb x0 x1 x2 x3 y0 y1 y2 o0 o1 o2 o3 o4 f0 f1 f2 f3 f4 s0 s1 g0 g1 HW; try clear r0 r1 r2 r3 r4 q0 q1 q2 q3 q4
      have HW := HN
      clear HN
      obtain ⟨⟨x0, x1, x2, x3⟩, ⟨y0, y1, y2⟩, ⟨o0, o1, o2, o3, o4⟩, ⟨f0, f1, f2, f3, f4⟩, s0, s1, g0, g1⟩ := HW.out.cells
      obtain ⟨⟨r0, r1, r2, r3, r4⟩, q0, q1, q2, q3, q4⟩ := HW.out.rcells
      go_upto_region 8 with fail
      go_region_with (first | (go_at_call 80; (with_reducible refine (reals_wide_minus.calls M0 M1 C0 C1 R0 R1 _ HP.out).mono ?_); rintro e w3 ⟨rfl, hb⟩; have HN := Aside0.mk (HW.out.drew.next hb); clear hb x0 x1 x2 x3 y0 y1 y2 o0 o1 o2 o3 o4 f0 f1 f2 f3 f4 s0 s1 g0 g1 r0 r1 r2 r3 r4 q0 q1 q2 q3 q4 HW; have HW := HN; clear HN; obtain ⟨⟨x0, x1, x2, x3⟩, ⟨y0, y1, y2⟩, ⟨o0, o1, o2, o3, o4⟩, ⟨f0, f1, f2, f3, f4⟩, s0, s1, g0, g1⟩ := HW.out.cells; obtain ⟨⟨r0, r1, r2, r3, r4⟩, q0, q1, q2, q3, q4⟩ := HW.out.rcells))
      all_goals
       have HN := Aside0.mk (((HW.out.setO1 1 (.int .u64 R0) rfl).setO1 2 (.int .u64 R1) rfl).setO1 0 (.bool rn) rfl)
       clear HW
       have HW := HN
       clear HN
       go_wp2
       have HQ := Aside0.mk (((((HW.out.setR1 0 (.bool rn) rfl).setR1 1 (.int .u64 R0) rfl).setR1 2 (.int .u64 R1) rfl).setR1 3 (.int .i64 E) rfl).setR1 4 (.bool true) rfl)
       obtain ⟨k0, k1, k2, k3, k4⟩ := sum_fin HQ.out
       exact bodyPost_ret (v := .agg #[.bool rn, .int .u64 R0, .int .u64 R1, .int .i64 E, .bool true]) (by simp [results, Try.results56, go_sem, k0, k1, k2, k3, k4]) rfl (sum_end HQ.out)
def sumBase (XH XL xe YH YL ye : Int) : Option (Int × Int × Int × Int × Int × Bool) :=
 if xe - ye ≤ 19 then (reals_wide_scaled.f 40 XH XL (xe - ye)).bind fun c => some (c.1, c.2, ye, YH, YL, false)
 else (reals_wide_scaled.f 40 XH XL 19).bind fun c => (reals_wide_cut.f YH YL (xe - ye - 19) false).bind fun m => some (c.1, c.2, xe - 19, m.1, m.2.1, m.2.2.2)
def sumEnd (xn yn : Bool) (C0 C1 E M0 M1 : Int) (mo : Bool) : Option (Bool × Int × Int × Int × Bool) :=
 if xn = yn then (reals_wide_plus.f C0 C1 M0 M1).bind fun r => some (xn, r.1, r.2, E, mo)
 else (reals_wide_compare.f C0 C1 M0 M1).bind fun c =>
  if 0 ≤ c ∧ ¬ (mo = true ∧ C0 = M0 ∧ C1 = M1) then (reals_wide_minus.f C0 C1 M0 M1).bind fun s => if mo = true then (reals_wide_minus.f s.1 s.2 0 1).bind fun r => some (xn, r.1, r.2, E, mo) else some (xn, s.1, s.2, E, mo)
  else (reals_wide_minus.f M0 M1 C0 C1).bind fun r => some (yn, r.1, r.2, E, mo)
def reals_sum.f (a0_0 : Bool) (a0_1 : Int) (a0_2 : Int) (a0_3 : Int) (a0_4 : Bool) (a1_0 : Bool) (a1_1 : Int) (a1_2 : Int) (a1_3 : Int) (a1_4 : Bool) : Option (Bool × Int × Int × Int × Bool) :=
 if (a0_4 = false ∧ a1_4 = false) ∧ (0 ≤ a0_3 - a1_3 ∧ a0_3 - a1_3 ≤ 100000) ∧ -100000 ≤ a0_3 ∧ a0_3 ≤ 100000 then (sumBase a0_1 a0_2 a0_3 a1_1 a1_2 a1_3).bind fun b => sumEnd a0_0 a1_0 b.1 b.2.1 b.2.2.1 b.2.2.2.1 b.2.2.2.2.1 b.2.2.2.2.2 else none
theorem reals_sum.calls (a0_0 : Bool) (a0_1 : Int) (a0_2 : Int) (a0_3 : Int) (a0_4 : Bool) (a1_0 : Bool) (a1_1 : Int) (a1_2 : Int) (a1_3 : Int) (a1_4 : Bool) (r1 : Bool) (r2 : Int) (r3 : Int) (r4 : Int) (r5 : Bool) (w : World) (h : reals_sum.f a0_0 a0_1 a0_2 a0_3 a0_4 a1_0 a1_1 a1_2 a1_3 a1_4 = some (r1, r2, r3, r4, r5)) :
  Calls Try.prog 56 #[.agg #[.bool a0_0, .int .u64 a0_1, .int .u64 a0_2, .int .i64 a0_3, .bool a0_4], .agg #[.bool a1_0, .int .u64 a1_1, .int .u64 a1_2, .int .i64 a1_3, .bool a1_4]] w fun e w' => e = .returned (.agg #[.bool r1, .int .u64 r2, .int .u64 r3, .int .i64 r4, .bool r5]) ∧ Below w.heap.size w w' := by
 unfold reals_sum.f at h
 by_cases hc : (a0_4 = false ∧ a1_4 = false) ∧ (0 ≤ a0_3 - a1_3 ∧ a0_3 - a1_3 ≤ 100000) ∧ -100000 ≤ a0_3 ∧ a0_3 ≤ 100000
 ·rw [if_pos hc] at h
  obtain ⟨⟨rfl, rfl⟩, ⟨h0, h1⟩, h2, h3⟩ := hc
  obtain ⟨⟨C0, C1, E, M0, M1, mo⟩, hb, h⟩ := Option.bind_eq_some_iff.1 h
  dsimp only at h
  unfold sumBase at hb
  have hA : a0_3 - a1_3 ≤ 19 → reals_wide_scaled.f 40 a0_1 a0_2 (a0_3 - a1_3) = some (C0, C1) ∧ E = a1_3 ∧ M0 = a1_1 ∧ M1 = a1_2 ∧ mo = false := by
   intro h19
   rw [if_pos h19] at hb
   obtain ⟨⟨c0, c1⟩, hs, hb⟩ := Option.bind_eq_some_iff.1 hb
   simp only [Option.some.injEq, Prod.mk.injEq] at hb
   obtain ⟨rfl, rfl, rfl, rfl, rfl, rfl⟩ := hb
   exact ⟨hs, rfl, rfl, rfl, rfl⟩
  have hB : ¬ a0_3 - a1_3 ≤ 19 → reals_wide_scaled.f 40 a0_1 a0_2 19 = some (C0, C1) ∧ E = a0_3 - 19 ∧ ∃ hf, reals_wide_cut.f a1_1 a1_2 (a0_3 - a1_3 - 19) false = some (M0, M1, hf, mo) := by
   intro h19
   rw [if_neg h19] at hb
   obtain ⟨⟨c0, c1⟩, hs, hb⟩ := Option.bind_eq_some_iff.1 hb
   obtain ⟨⟨m0, m1, hf, mm⟩, hk, hb⟩ := Option.bind_eq_some_iff.1 hb
   simp only [Option.some.injEq, Prod.mk.injEq] at hb
   obtain ⟨rfl, rfl, rfl, rfl, rfl, rfl⟩ := hb
   exact ⟨hs, rfl, hf, hk⟩
  unfold sumEnd at h
  by_cases hn : a0_0 = a1_0
  ·rw [if_pos hn] at h
   obtain ⟨⟨s0, s1⟩, hs, h⟩ := Option.bind_eq_some_iff.1 h
   simp only [Option.some.injEq, Prod.mk.injEq] at h
   obtain ⟨rfl, rfl, rfl, rfl, rfl⟩ := h
   exact sum_main _ _ _ _ w _ _ _ _ h0 h1 h2 h3 C0 C1 E M0 M1 mo hA hB _ _ _ (.inl ⟨hn, rfl, hs⟩)
  ·rw [if_neg hn] at h
   have hn' : (a0_0 == a1_0) = false := beq_eq_false_iff_ne.2 hn
   obtain ⟨c, hcm, h⟩ := Option.bind_eq_some_iff.1 h
   by_cases hq : 0 ≤ c ∧ ¬ (mo = true ∧ C0 = M0 ∧ C1 = M1)
   ·rw [if_pos hq] at h
    obtain ⟨⟨s0, s1⟩, hs, h⟩ := Option.bind_eq_some_iff.1 h
    by_cases hmo : mo = true
    ·rw [if_pos hmo] at h
     obtain ⟨⟨t0, t1⟩, ht, h⟩ := Option.bind_eq_some_iff.1 h
     simp only [Option.some.injEq, Prod.mk.injEq] at h
     obtain ⟨rfl, rfl, rfl, rfl, rfl⟩ := h
     exact sum_main _ _ _ _ w _ _ _ _ h0 h1 h2 h3 C0 C1 E M0 M1 mo hA hB _ _ _ (.inr ⟨hn', c, hcm, .inl ⟨hq.1, .inr ⟨hmo, fun h => hq.2 ⟨hmo, h⟩, rfl, s0, s1, hs, ht⟩⟩⟩)
    ·rw [if_neg hmo] at h
     simp only [Option.some.injEq, Prod.mk.injEq] at h
     obtain ⟨rfl, rfl, rfl, rfl, rfl⟩ := h
     exact sum_main _ _ _ _ w _ _ _ _ h0 h1 h2 h3 C0 C1 E M0 M1 mo hA hB _ _ _ (.inr ⟨hn', c, hcm, .inl ⟨hq.1, .inl ⟨by simpa using hmo, rfl, hs⟩⟩⟩)
   ·rw [if_neg hq] at h
    obtain ⟨⟨s0, s1⟩, hs, h⟩ := Option.bind_eq_some_iff.1 h
    simp only [Option.some.injEq, Prod.mk.injEq] at h
    obtain ⟨rfl, rfl, rfl, rfl, rfl⟩ := h
    refine sum_main _ _ _ _ w _ _ _ _ h0 h1 h2 h3 C0 C1 E M0 M1 mo hA hB _ _ _ (.inr ⟨hn', c, hcm, .inr ⟨?_, rfl, hs⟩⟩)
    by_cases hc0 : 0 ≤ c
    ·right
     by_cases hx : mo = true ∧ C0 = M0 ∧ C1 = M1
     ·exact ⟨hc0, hx⟩
     ·exact absurd ⟨hc0, hx⟩ hq
    ·left; omega
 ·rw [if_neg hc] at h; cases h
end Go.Proofs.Ytamkjpjibkabaaa.PR
