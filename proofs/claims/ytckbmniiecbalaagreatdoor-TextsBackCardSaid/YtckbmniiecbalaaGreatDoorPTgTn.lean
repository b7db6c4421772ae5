-- written by a program of this session out of the kit's print (its words and its form)
import Derived.Test.YtckbmniiecbalaaGreatDoorPTgSa
import Derived.Test.YtckbmniiecbalaaGreatDoorPTsq
import Derived.Test.YtckbmniiecbalaaGreatDoorPTx0
namespace Go.Proofs.YtckbmniiecbalaaGreatDoor.PT
open Go.RowKit Go.Proofs.YtckbmniiecbalaaGreatDoorW.PrintWords Go.Proofs.YtckbmniiecbalaaGreatDoorW.PrintLast Go.Proofs.YtckbmniiecbalaaGreatDoorW.PrintMore
attribute [local go_sem] max2_int min2_int max_two min_two max_three min_three max_four min_four   -- for this text's walks alone
set_option linter.unusedVariables false
set_option linter.unusedSimpArgs false

-- NOT PRINTED: function 105 (strconv_Itoa_105)

/-! ### strconv_Itoa_73: function 73 -/
def strconv_Itoa_73.f (a0 : Int) : Option (ByteArray) := if -9223372036854775808 ≤ a0 ∧ a0 ≤ 9223372036854775807 then some ⟨(Lib.itoa a0).toArray⟩ else none
theorem strconv_Itoa_73.calls (a0 : Int) (r : ByteArray) (w : World) (hE : Env w) (h : strconv_Itoa_73.f a0 = some r) :
  Calls Tryz.prog 73 #[.int .i64 a0] w fun e w' => e = .returned (.string r) ∧ Below w.heap.size w w' := by
 unfold strconv_Itoa_73.f at h
 by_cases hc : -9223372036854775808 ≤ a0 ∧ a0 ≤ 9223372036854775807
 ·rw [if_pos hc] at h; cases h
  refine (Go.Proofs.Tryz.strconv_Itoa a0 hc.1 hc.2 w hE).mono ?_
  rintro e w' ⟨he, k, os, hw⟩
  exact ⟨he, by rw [hw]; exact ⟨rfl, rfl, rfl, by show w.heap.size ≤ (w.heap ++ os).size; rw [Array.size_append]; omega, fun j hj => by show (w.heap ++ os)[j]? = _; exact Array.getElem?_append_left hj⟩⟩
 ·rw [if_neg hc] at h; cases h

/-! ### texts_Denote: function 26 -/
def texts_Denote.f (a0_0 : Int) (a0_1 : Int) : Option (ByteArray) := (strconv_FormatInt_72.f a0_0 10).bind fun t700 => (if a0_1 = 0 then (some t700) else ((strconv_Itoa_73.f a0_1).bind fun t701 => (if 1 + t701.size ≤ 9223372036854775807 then (if t700.size + ((⟨#[101]⟩ : ByteArray) ++ t701).size ≤ 9223372036854775807 then (some (t700 ++ ((⟨#[101]⟩ : ByteArray) ++ t701))) else (none)) else (none))))
set_option maxHeartbeats 8000000 in
set_option maxRecDepth 100000 in
theorem texts_Denote.calls (a0_0 : Int) (a0_1 : Int) (r : ByteArray) (w : World) (hE : Env w) (h : texts_Denote.f a0_0 a0_1 = some r) :
  Calls Tryz.prog 26 #[.agg #[.int .i64 a0_0, .int .i64 a0_1]] w fun e w' => e = .returned (.string r) ∧ Below w.heap.size w w' := by
 have HE_ := Aside0.mk hE
 clear hE
 have hu23 := Tryz.underlying23
 have HB := Aside0.mk (Below.refl w.heap.size w)
 have H : ((strconv_FormatInt_72.f a0_0 10).bind fun t700 => (if a0_1 = 0 then (some t700) else ((strconv_Itoa_73.f a0_1).bind fun t701 => (if 1 + t701.size ≤ 9223372036854775807 then (if t700.size + ((⟨#[101]⟩ : ByteArray) ++ t701).size ≤ 9223372036854775807 then (some (t700 ++ ((⟨#[101]⟩ : ByteArray) ++ t701))) else (none)) else (none))))) = some r := h
 clear h
 replace H := Option.bind_eq_some_iff.mp H
 obtain ⟨t700, A20, H⟩ := H
 replace H : (if a0_1 = 0 then (some t700) else ((strconv_Itoa_73.f a0_1).bind fun t701 => (if 1 + t701.size ≤ 9223372036854775807 then (if t700.size + ((⟨#[101]⟩ : ByteArray) ++ t701).size ≤ 9223372036854775807 then (some (t700 ++ ((⟨#[101]⟩ : ByteArray) ++ t701))) else (none)) else (none)))) = some r := H
 have A2 := Aside0.mk A20
 clear A20
 by_cases c3 : a0_1 = 0
 ·rw [if_pos c3] at H
  have c3b0 : (a0_1 == 0) = true := beq_iff_eq.mpr c3
  have c3b1 : (a0_1 != 0) = false := bne_eq_false_iff_eq.mpr c3
  clear c3
  obtain rfl := Option.some.inj H
  go_enter Tryz.func26, Tryz.ntmps26
  go_wp2_with (first | ((with_reducible refine gate_dst (N := 1) rfl ?_); refine box_event ?hg (N := 1) ?hd (cs := #[.int .i64 a0_0, .int .i64 a0_1]) (t := 23) ?hr ?_; (case hd => rfl); (case hg => rfl); (case hr => first | (go_simp; done) | (go_simp; rfl)); intro gb699 hg w4 hbox hb; have BK699 := Aside0.mk (hbox); have GW699 := Aside0.mk (bs HB hg : w.heap.size ≤ gb699); replace HB := Aside0.mk (below_step (bw HB) hb); clear hb hbox hg; obtain ⟨hcz5_0, hcz5_1, hfz5_0, hfz5_1⟩ := cf2 BK699) | ((with_reducible refine gate_callee (f := 72) rfl ?_); refine goesL_ (some 6) rfl rfl Tryz.func72 (by kernel_rfl) rfl #[.int .i64 a0_0, .int .i64 10] rfl (by (try simp only [List.map_toArray, List.map_cons, List.map_nil]); first | done | rfl | (simp only [List.length_drop, List.length_take]; rfl)) ?_; (with_reducible refine (strconv_FormatInt_72.calls a0_0 10 t700 _ (env_at HE_.out (bw HB)) A2.out).mono ?_); rintro e w6 ⟨rfl, hb⟩; refine ⟨_, rfl, ?_⟩; replace BK699 := Aside0.mk (bb BK699 hb); replace HB := Aside0.mk (below_step (bw HB) hb); (try clear hb); (try clear hb2); (try clear hk); (try clear hi); obtain ⟨hcz7_0, hcz7_1, hfz7_0, hfz7_1⟩ := cf2 BK699))
  go_ret
  exact ⟨by first | rfl | (simp [errW_none, errW_some] <;> rfl) | (simp [*, errW_none, errW_some] <;> rfl), bw HB⟩
 ·rw [if_neg c3] at H
  have c3b0 : (a0_1 == 0) = false := beq_eq_false_iff_ne.mpr c3
  have c3b1 : (a0_1 != 0) = true := bne_iff_ne.mpr c3
  replace H := Option.bind_eq_some_iff.mp H
  obtain ⟨t701, A80, H⟩ := H
  replace H : (if 1 + t701.size ≤ 9223372036854775807 then (if t700.size + ((⟨#[101]⟩ : ByteArray) ++ t701).size ≤ 9223372036854775807 then (some (t700 ++ ((⟨#[101]⟩ : ByteArray) ++ t701))) else (none)) else (none)) = some r := H
  have A8 := Aside0.mk A80
  clear A80
  by_cases c9 : 1 + t701.size ≤ 9223372036854775807
  ·rw [if_pos c9] at H
   have c9b0 := eq_true c9
   have c9b1 : decide (1 + t701.size ≤ 9223372036854775807) = true := decide_eq_true c9
   try have c9b2 : (9223372036854775807 < 1 + t701.size) = False := eq_false (Nat.not_lt.2 c9)
   by_cases c10 : t700.size + ((⟨#[101]⟩ : ByteArray) ++ t701).size ≤ 9223372036854775807
   ·rw [if_pos c10] at H
    have c10b0 := eq_true c10
    have c10b1 : decide (t700.size + ((⟨#[101]⟩ : ByteArray) ++ t701).size ≤ 9223372036854775807) = true := decide_eq_true c10
    try have c10b2 : (9223372036854775807 < t700.size + ((⟨#[101]⟩ : ByteArray) ++ t701).size) = False := eq_false (Nat.not_lt.2 c10)
    obtain rfl := Option.some.inj H
    go_enter Tryz.func26, Tryz.ntmps26
    go_wp2_with (first | ((with_reducible refine gate_dst (N := 1) rfl ?_); refine box_event ?hg (N := 1) ?hd (cs := #[.int .i64 a0_0, .int .i64 a0_1]) (t := 23) ?hr ?_; (case hd => rfl); (case hg => rfl); (case hr => first | (go_simp; done) | (go_simp; rfl)); intro gb699 hg w11 hbox hb; have BK699 := Aside0.mk (hbox); have GW699 := Aside0.mk (bs HB hg : w.heap.size ≤ gb699); replace HB := Aside0.mk (below_step (bw HB) hb); clear hb hbox hg; obtain ⟨hcz12_0, hcz12_1, hfz12_0, hfz12_1⟩ := cf2 BK699) | ((with_reducible refine gate_callee (f := 72) rfl ?_); refine goesL_ (some 6) rfl rfl Tryz.func72 (by kernel_rfl) rfl #[.int .i64 a0_0, .int .i64 10] rfl (by (try simp only [List.map_toArray, List.map_cons, List.map_nil]); first | done | rfl | (simp only [List.length_drop, List.length_take]; rfl)) ?_; (with_reducible refine (strconv_FormatInt_72.calls a0_0 10 t700 _ (env_at HE_.out (bw HB)) A2.out).mono ?_); rintro e w13 ⟨rfl, hb⟩; refine ⟨_, rfl, ?_⟩; replace BK699 := Aside0.mk (bb BK699 hb); replace HB := Aside0.mk (below_step (bw HB) hb); (try clear hb); (try clear hb2); (try clear hk); (try clear hi); obtain ⟨hcz14_0, hcz14_1, hfz14_0, hfz14_1⟩ := cf2 BK699) | ((with_reducible refine gate_callee (f := 73) rfl ?_); refine goesL_ (some 13) rfl rfl Tryz.func73 (by kernel_rfl) rfl #[.int .i64 a0_1] rfl (by (try simp only [List.map_toArray, List.map_cons, List.map_nil]); first | done | rfl | (simp only [List.length_drop, List.length_take]; rfl)) ?_; (with_reducible refine (strconv_Itoa_73.calls a0_1 t701 _ (env_at HE_.out (bw HB)) A8.out).mono ?_); rintro e w15 ⟨rfl, hb⟩; refine ⟨_, rfl, ?_⟩; replace BK699 := Aside0.mk (bb BK699 hb); replace HB := Aside0.mk (below_step (bw HB) hb); (try clear hb); (try clear hb2); (try clear hk); (try clear hi)))
    go_ret
    exact ⟨by first | rfl | (simp [errW_none, errW_some] <;> rfl) | (simp [*, errW_none, errW_some] <;> rfl), bw HB⟩
   ·rw [if_neg c10] at H
    exact absurd H (by simp)
  ·rw [if_neg c9] at H
   exact absurd H (by simp)
end Go.Proofs.YtckbmniiecbalaaGreatDoor.PT
