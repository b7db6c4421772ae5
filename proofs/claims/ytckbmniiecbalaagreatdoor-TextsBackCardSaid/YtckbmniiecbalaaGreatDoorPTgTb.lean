-- written by a program of this session out of the kit's print (its words and its form)
import Derived.Test.YtckbmniiecbalaaGreatDoorPTgA
import Derived.Test.YtckbmniiecbalaaGreatDoorPTgSa
import Derived.Test.YtckbmniiecbalaaGreatDoorPTgTa
import Derived.Test.YtckbmniiecbalaaGreatDoorPTsq
import Derived.Test.YtckbmniiecbalaaGreatDoorPTx0
namespace Go.Proofs.YtckbmniiecbalaaGreatDoor.PT
open Go.RowKit Go.Proofs.YtckbmniiecbalaaGreatDoorW.PrintWords Go.Proofs.YtckbmniiecbalaaGreatDoorW.PrintLast Go.Proofs.YtckbmniiecbalaaGreatDoorW.PrintMore
attribute [local go_sem] max2_int min2_int max_two min_two max_three min_three max_four min_four   -- for this text's walks alone
set_option linter.unusedVariables false
set_option linter.unusedSimpArgs false

/-! ### texts_valid: function 33 -/
def texts_valid.f (k : Nat) (a0_0 : Int) (a0_1 : Int) : Option (Bool) := (reals_Valid.f k 1 a0_0 a0_1).bind fun t142 => (if t142 = true then (some true) else ((reals_Valid.f k 0 a0_0 a0_1).bind fun t143 => (if t143 = true then (some true) else ((reals_Valid.f k (-1) a0_0 a0_1).bind fun t144 => (some t144)))))
theorem texts_valid.mono : ∀ a0 a1 k, LeO (texts_valid.f k a0 a1) (texts_valid.f (k + 1) a0 a1) := by
 intro a0 a1 k
 unfold texts_valid.f
 repeat' first
   | (with_reducible exact reals_Valid.mono _ _ _ _)
   | (with_reducible exact LeO.refl _)
   | (with_reducible exact LeO.none _)
   | (with_reducible refine LeO.ite ?_ ?_)
   | (with_reducible refine LeO.bind ?_ (fun _ => ?_))
   | exact reals_Valid.mono _ _ _ _
   | exact LeO.none _
   | refine LeO.ite ?_ ?_
   | refine LeO.bind ?_ (fun _ => ?_)
set_option maxHeartbeats 8000000 in
set_option maxRecDepth 100000 in
theorem texts_valid.calls (k : Nat) (a0_0 : Int) (a0_1 : Int) (r : Bool) (w : World) (h : texts_valid.f k a0_0 a0_1 = some r) :
  Calls Tryz.prog 33 #[.agg #[.int .i64 a0_0, .int .i64 a0_1]] w fun e w' => e = .returned (.bool r) ∧ Below w.heap.size w w' := by
 have hu23 := Tryz.underlying23
 have HB := Aside0.mk (Below.refl w.heap.size w)
 have H : ((reals_Valid.f k 1 a0_0 a0_1).bind fun t142 => (if t142 = true then (some true) else ((reals_Valid.f k 0 a0_0 a0_1).bind fun t143 => (if t143 = true then (some true) else ((reals_Valid.f k (-1) a0_0 a0_1).bind fun t144 => (some t144)))))) = some r := h
 clear h
 replace H := Option.bind_eq_some_iff.mp H
 obtain ⟨t142, A20, H⟩ := H
 replace H : (if t142 = true then (some true) else ((reals_Valid.f k 0 a0_0 a0_1).bind fun t143 => (if t143 = true then (some true) else ((reals_Valid.f k (-1) a0_0 a0_1).bind fun t144 => (some t144))))) = some r := H
 have A2 := Aside0.mk A20
 clear A20
 by_cases c3 : t142 = true
 ·subst c3
  have H1 : (some true) = some r := by rw [if_pos rfl] at H; exact H
  clear H
  have H := H1
  clear H1
  obtain rfl := Option.some.inj H
  go_enter Tryz.func33, Tryz.ntmps33
  go_wp2_with (first | ((with_reducible refine gate_dst (N := 1) rfl ?_); refine box_event ?hg (N := 1) ?hd (cs := #[.int .i64 a0_0, .int .i64 a0_1]) (t := 23) ?hr ?_; (case hd => rfl); (case hg => rfl); (case hr => first | (go_simp; done) | (go_simp; rfl)); intro gb141 hg w4 hbox hb; have BK141 := Aside0.mk (hbox); have GW141 := Aside0.mk (bs HB hg : w.heap.size ≤ gb141); replace HB := Aside0.mk (below_step (bw HB) hb); clear hb hbox hg; obtain ⟨hcz5_0, hcz5_1, hfz5_0, hfz5_1⟩ := cf2 BK141) | ((with_reducible refine gate_callee (f := 77) rfl ?_); refine goesL_ (some 4) rfl rfl Tryz.func77 (by kernel_rfl) rfl #[.int .i64 1, .agg #[.int .i64 a0_0, .int .i64 a0_1]] rfl (by (try simp only [List.map_toArray, List.map_cons, List.map_nil]); first | done | rfl | (simp only [List.length_drop, List.length_take]; rfl)) ?_; (with_reducible refine (reals_Valid.calls k 1 a0_0 a0_1 true _ A2.out).mono ?_); rintro e w6 ⟨rfl, hb⟩; refine ⟨_, rfl, ?_⟩; replace BK141 := Aside0.mk (bb BK141 hb); replace HB := Aside0.mk (below_step (bw HB) hb); (try clear hb); (try clear hb2); (try clear hk); (try clear hi)))
  go_ret
  exact ⟨by first | rfl | (simp [errW_none, errW_some] <;> rfl) | (simp [*, errW_none, errW_some] <;> rfl), bw HB⟩
 ·replace c3 := Bool.eq_false_iff.mpr c3
  subst c3
  have H1 : ((reals_Valid.f k 0 a0_0 a0_1).bind fun t143 => (if t143 = true then (some true) else ((reals_Valid.f k (-1) a0_0 a0_1).bind fun t144 => (some t144)))) = some r := by rw [if_neg (show ¬ (false = true) by decide)] at H; exact H
  clear H
  have H := H1
  clear H1
  replace H := Option.bind_eq_some_iff.mp H
  obtain ⟨t143, A70, H⟩ := H
  replace H : (if t143 = true then (some true) else ((reals_Valid.f k (-1) a0_0 a0_1).bind fun t144 => (some t144))) = some r := H
  have A7 := Aside0.mk A70
  clear A70
  by_cases c8 : t143 = true
  ·subst c8
   have H1 : (some true) = some r := by rw [if_pos rfl] at H; exact H
   clear H
   have H := H1
   clear H1
   obtain rfl := Option.some.inj H
   go_enter Tryz.func33, Tryz.ntmps33
   go_wp2_with (first | ((with_reducible refine gate_dst (N := 1) rfl ?_); refine box_event ?hg (N := 1) ?hd (cs := #[.int .i64 a0_0, .int .i64 a0_1]) (t := 23) ?hr ?_; (case hd => rfl); (case hg => rfl); (case hr => first | (go_simp; done) | (go_simp; rfl)); intro gb141 hg w9 hbox hb; have BK141 := Aside0.mk (hbox); have GW141 := Aside0.mk (bs HB hg : w.heap.size ≤ gb141); replace HB := Aside0.mk (below_step (bw HB) hb); clear hb hbox hg; obtain ⟨hcz10_0, hcz10_1, hfz10_0, hfz10_1⟩ := cf2 BK141) | ((with_reducible refine gate_callee (f := 77) rfl ?_); refine goesL_ (some 4) rfl rfl Tryz.func77 (by kernel_rfl) rfl #[.int .i64 1, .agg #[.int .i64 a0_0, .int .i64 a0_1]] rfl (by (try simp only [List.map_toArray, List.map_cons, List.map_nil]); first | done | rfl | (simp only [List.length_drop, List.length_take]; rfl)) ?_; (with_reducible refine (reals_Valid.calls k 1 a0_0 a0_1 false _ A2.out).mono ?_); rintro e w11 ⟨rfl, hb⟩; refine ⟨_, rfl, ?_⟩; replace BK141 := Aside0.mk (bb BK141 hb); replace HB := Aside0.mk (below_step (bw HB) hb); (try clear hb); (try clear hb2); (try clear hk); (try clear hi); obtain ⟨hcz12_0, hcz12_1, hfz12_0, hfz12_1⟩ := cf2 BK141) | (go_at_call 77; (with_reducible refine (reals_Valid.calls k 0 a0_0 a0_1 true _ A7.out).mono ?_); rintro e w13 ⟨rfl, hb⟩; replace BK141 := Aside0.mk (bb BK141 hb); replace HB := Aside0.mk (below_step (bw HB) hb); (try clear hb); (try clear hb2); (try clear hk); (try clear hi)))
   go_ret
   exact ⟨by first | rfl | (simp [errW_none, errW_some] <;> rfl) | (simp [*, errW_none, errW_some] <;> rfl), bw HB⟩
  ·replace c8 := Bool.eq_false_iff.mpr c8
   subst c8
   have H1 : ((reals_Valid.f k (-1) a0_0 a0_1).bind fun t144 => (some t144)) = some r := by rw [if_neg (show ¬ (false = true) by decide)] at H; exact H
   clear H
   have H := H1
   clear H1
   replace H := Option.bind_eq_some_iff.mp H
   obtain ⟨t144, A140, H⟩ := H
   replace H : (some t144) = some r := H
   have A14 := Aside0.mk A140
   clear A140
   obtain rfl := Option.some.inj H
   go_enter Tryz.func33, Tryz.ntmps33
   go_wp2_with (first | ((with_reducible refine gate_dst (N := 1) rfl ?_); refine box_event ?hg (N := 1) ?hd (cs := #[.int .i64 a0_0, .int .i64 a0_1]) (t := 23) ?hr ?_; (case hd => rfl); (case hg => rfl); (case hr => first | (go_simp; done) | (go_simp; rfl)); intro gb141 hg w15 hbox hb; have BK141 := Aside0.mk (hbox); have GW141 := Aside0.mk (bs HB hg : w.heap.size ≤ gb141); replace HB := Aside0.mk (below_step (bw HB) hb); clear hb hbox hg; obtain ⟨hcz16_0, hcz16_1, hfz16_0, hfz16_1⟩ := cf2 BK141) | ((with_reducible refine gate_callee (f := 77) rfl ?_); refine goesL_ (some 4) rfl rfl Tryz.func77 (by kernel_rfl) rfl #[.int .i64 1, .agg #[.int .i64 a0_0, .int .i64 a0_1]] rfl (by (try simp only [List.map_toArray, List.map_cons, List.map_nil]); first | done | rfl | (simp only [List.length_drop, List.length_take]; rfl)) ?_; (with_reducible refine (reals_Valid.calls k 1 a0_0 a0_1 false _ A2.out).mono ?_); rintro e w17 ⟨rfl, hb⟩; refine ⟨_, rfl, ?_⟩; replace BK141 := Aside0.mk (bb BK141 hb); replace HB := Aside0.mk (below_step (bw HB) hb); (try clear hb); (try clear hb2); (try clear hk); (try clear hi); obtain ⟨hcz18_0, hcz18_1, hfz18_0, hfz18_1⟩ := cf2 BK141) | (go_at_call 77; (with_reducible refine (reals_Valid.calls k 0 a0_0 a0_1 false _ A7.out).mono ?_); rintro e w19 ⟨rfl, hb⟩; replace BK141 := Aside0.mk (bb BK141 hb); replace HB := Aside0.mk (below_step (bw HB) hb); (try clear hb); (try clear hb2); (try clear hk); (try clear hi); obtain ⟨hcz20_0, hcz20_1, hfz20_0, hfz20_1⟩ := cf2 BK141) | (go_at_call 77; (with_reducible refine (reals_Valid.calls k (-1) a0_0 a0_1 t144 _ A14.out).mono ?_); rintro e w21 ⟨rfl, hb⟩; replace BK141 := Aside0.mk (bb BK141 hb); replace HB := Aside0.mk (below_step (bw HB) hb); (try clear hb); (try clear hb2); (try clear hk); (try clear hi)))
   go_ret
   exact ⟨by first | rfl | (simp [errW_none, errW_some] <;> rfl) | (simp [*, errW_none, errW_some] <;> rfl), bw HB⟩

/-! ### texts_scaled: function 37 -/
def texts_scaled.f (a0_0 : Int) (a0_1 : Int) (a1 : Int) : Option (ByteArray) := (texts_magnitude.f a0_0).bind fun t147 => (if (wrap64 (a0_1 + a1)) ≥ 0 then ((strings_Repeat.f (⟨#[48]⟩ : ByteArray) (wrap64 (a0_1 + a1))).bind fun t148 => (if t147.size + t148.size ≤ 9223372036854775807 then ((strings_TrimLeft.f (t147 ++ t148) (⟨#[48]⟩ : ByteArray)).bind fun t149 => (some t149)) else (none))) else (if (wrap64 (-(wrap64 (a0_1 + a1)))) > (t147.size : Int) then (some (⟨#[]⟩ : ByteArray)) else (if 0 ≤ (wrap64 ((t147.size : Int) - (wrap64 (-(wrap64 (a0_1 + a1)))))) then (if (wrap64 ((t147.size : Int) - (wrap64 (-(wrap64 (a0_1 + a1)))))) ≤ (t147.size : Int) then (if 0 < ((t147.extract ((wrap64 ((t147.size : Int) - (wrap64 (-(wrap64 (a0_1 + a1)))))) : Int).toNat t147.size).size : Int) then (if (bt (t147.extract ((wrap64 ((t147.size : Int) - (wrap64 (-(wrap64 (a0_1 + a1)))))) : Int).toNat t147.size) 0) ≥ 53 then (if 1 + (t147.extract 0 ((wrap64 ((t147.size : Int) - (wrap64 (-(wrap64 (a0_1 + a1)))))) : Int).toNat).size ≤ 9223372036854775807 then ((texts_more.f ((⟨#[48]⟩ : ByteArray) ++ (t147.extract 0 ((wrap64 ((t147.size : Int) - (wrap64 (-(wrap64 (a0_1 + a1)))))) : Int).toNat))).bind fun t150 => ((strings_TrimLeft.f t150 (⟨#[48]⟩ : ByteArray)).bind fun t151 => (some t151))) else (none)) else ((strings_TrimLeft.f (t147.extract 0 ((wrap64 ((t147.size : Int) - (wrap64 (-(wrap64 (a0_1 + a1)))))) : Int).toNat) (⟨#[48]⟩ : ByteArray)).bind fun t152 => (some t152))) else (none)) else (none)) else (none))))
set_option maxHeartbeats 8000000 in
set_option maxRecDepth 100000 in
theorem texts_scaled.calls (a0_0 : Int) (a0_1 : Int) (a1 : Int) (r : ByteArray) (w : World) (hE : Env w) (h : texts_scaled.f a0_0 a0_1 a1 = some r) :
  Calls Tryz.prog 37 #[.agg #[.int .i64 a0_0, .int .i64 a0_1], .int .i64 a1] w fun e w' => e = .returned (.string r) ∧ Below w.heap.size w w' := by
 have HE_ := Aside0.mk hE
 clear hE
 have hu23 := Tryz.underlying23
 have HB := Aside0.mk (Below.refl w.heap.size w)
 have H : ((texts_magnitude.f a0_0).bind fun t147 => (if (wrap64 (a0_1 + a1)) ≥ 0 then ((strings_Repeat.f (⟨#[48]⟩ : ByteArray) (wrap64 (a0_1 + a1))).bind fun t148 => (if t147.size + t148.size ≤ 9223372036854775807 then ((strings_TrimLeft.f (t147 ++ t148) (⟨#[48]⟩ : ByteArray)).bind fun t149 => (some t149)) else (none))) else (if (wrap64 (-(wrap64 (a0_1 + a1)))) > (t147.size : Int) then (some (⟨#[]⟩ : ByteArray)) else (if 0 ≤ (wrap64 ((t147.size : Int) - (wrap64 (-(wrap64 (a0_1 + a1)))))) then (if (wrap64 ((t147.size : Int) - (wrap64 (-(wrap64 (a0_1 + a1)))))) ≤ (t147.size : Int) then (if 0 < ((t147.extract ((wrap64 ((t147.size : Int) - (wrap64 (-(wrap64 (a0_1 + a1)))))) : Int).toNat t147.size).size : Int) then (if (bt (t147.extract ((wrap64 ((t147.size : Int) - (wrap64 (-(wrap64 (a0_1 + a1)))))) : Int).toNat t147.size) 0) ≥ 53 then (if 1 + (t147.extract 0 ((wrap64 ((t147.size : Int) - (wrap64 (-(wrap64 (a0_1 + a1)))))) : Int).toNat).size ≤ 9223372036854775807 then ((texts_more.f ((⟨#[48]⟩ : ByteArray) ++ (t147.extract 0 ((wrap64 ((t147.size : Int) - (wrap64 (-(wrap64 (a0_1 + a1)))))) : Int).toNat))).bind fun t150 => ((strings_TrimLeft.f t150 (⟨#[48]⟩ : ByteArray)).bind fun t151 => (some t151))) else (none)) else ((strings_TrimLeft.f (t147.extract 0 ((wrap64 ((t147.size : Int) - (wrap64 (-(wrap64 (a0_1 + a1)))))) : Int).toNat) (⟨#[48]⟩ : ByteArray)).bind fun t152 => (some t152))) else (none)) else (none)) else (none))))) = some r := h
 clear h
 replace H := Option.bind_eq_some_iff.mp H
 obtain ⟨t147, A30, H⟩ := H
 replace H : (if (wrap64 (a0_1 + a1)) ≥ 0 then ((strings_Repeat.f (⟨#[48]⟩ : ByteArray) (wrap64 (a0_1 + a1))).bind fun t148 => (if t147.size + t148.size ≤ 9223372036854775807 then ((strings_TrimLeft.f (t147 ++ t148) (⟨#[48]⟩ : ByteArray)).bind fun t149 => (some t149)) else (none))) else (if (wrap64 (-(wrap64 (a0_1 + a1)))) > (t147.size : Int) then (some (⟨#[]⟩ : ByteArray)) else (if 0 ≤ (wrap64 ((t147.size : Int) - (wrap64 (-(wrap64 (a0_1 + a1)))))) then (if (wrap64 ((t147.size : Int) - (wrap64 (-(wrap64 (a0_1 + a1)))))) ≤ (t147.size : Int) then (if 0 < ((t147.extract ((wrap64 ((t147.size : Int) - (wrap64 (-(wrap64 (a0_1 + a1)))))) : Int).toNat t147.size).size : Int) then (if (bt (t147.extract ((wrap64 ((t147.size : Int) - (wrap64 (-(wrap64 (a0_1 + a1)))))) : Int).toNat t147.size) 0) ≥ 53 then (if 1 + (t147.extract 0 ((wrap64 ((t147.size : Int) - (wrap64 (-(wrap64 (a0_1 + a1)))))) : Int).toNat).size ≤ 9223372036854775807 then ((texts_more.f ((⟨#[48]⟩ : ByteArray) ++ (t147.extract 0 ((wrap64 ((t147.size : Int) - (wrap64 (-(wrap64 (a0_1 + a1)))))) : Int).toNat))).bind fun t150 => ((strings_TrimLeft.f t150 (⟨#[48]⟩ : ByteArray)).bind fun t151 => (some t151))) else (none)) else ((strings_TrimLeft.f (t147.extract 0 ((wrap64 ((t147.size : Int) - (wrap64 (-(wrap64 (a0_1 + a1)))))) : Int).toNat) (⟨#[48]⟩ : ByteArray)).bind fun t152 => (some t152))) else (none)) else (none)) else (none)))) = some r := H
 have A3 := Aside0.mk A30
 clear A30
 by_cases c4 : (wrap64 (a0_1 + a1)) ≥ 0
 ·rw [if_pos c4] at H
  have c4b0 : decide (0 ≤ (wrap64 (a0_1 + a1))) = true := decide_eq_true c4
  clear c4
  replace H := Option.bind_eq_some_iff.mp H
  obtain ⟨t148, A50, H⟩ := H
  replace H : (if t147.size + t148.size ≤ 9223372036854775807 then ((strings_TrimLeft.f (t147 ++ t148) (⟨#[48]⟩ : ByteArray)).bind fun t149 => (some t149)) else (none)) = some r := H
  have A5 := Aside0.mk A50
  clear A50
  by_cases c6 : t147.size + t148.size ≤ 9223372036854775807
  ·rw [if_pos c6] at H
   have c6b0 := eq_true c6
   have c6b1 : decide (t147.size + t148.size ≤ 9223372036854775807) = true := decide_eq_true c6
   try have c6b2 : (9223372036854775807 < t147.size + t148.size) = False := eq_false (Nat.not_lt.2 c6)
   replace H := Option.bind_eq_some_iff.mp H
   obtain ⟨t149, A70, H⟩ := H
   replace H : (some t149) = some r := H
   have A7 := Aside0.mk A70
   clear A70
   obtain rfl := Option.some.inj H
   go_enter Tryz.func37, Tryz.ntmps37
   go_wp2_with (first | ((with_reducible refine gate_dst (N := 2) rfl ?_); refine box_event ?hg (N := 2) ?hd (cs := #[.int .i64 a0_0, .int .i64 a0_1]) (t := 23) ?hr ?_; (case hd => rfl); (case hg => rfl); (case hr => first | (go_simp; done) | (go_simp; rfl)); intro gb146 hg w8 hbox hb; have BK146 := Aside0.mk (hbox); have GW146 := Aside0.mk (bs HB hg : w.heap.size ≤ gb146); replace HB := Aside0.mk (below_step (bw HB) hb); clear hb hbox hg; obtain ⟨hcz9_0, hcz9_1, hfz9_0, hfz9_1⟩ := cf2 BK146) | (go_at_call 32; (with_reducible refine (texts_magnitude.calls a0_0 t147 _ (env_at HE_.out (bw HB)) A3.out).mono ?_); rintro e w10 ⟨rfl, hb⟩; replace BK146 := Aside0.mk (bb BK146 hb); replace HB := Aside0.mk (below_step (bw HB) hb); (try clear hb); (try clear hb2); (try clear hk); (try clear hi); obtain ⟨hcz11_0, hcz11_1, hfz11_0, hfz11_1⟩ := cf2 BK146) | (go_at_call 36; (with_reducible refine (strings_Repeat.calls (⟨#[48]⟩ : ByteArray) (wrap64 (a0_1 + a1)) t148 _ A5.out).mono ?_); rintro e w12 ⟨rfl, hb⟩; replace BK146 := Aside0.mk (bb BK146 hb); replace HB := Aside0.mk (below_step (bw HB) hb); (try clear hb); (try clear hb2); (try clear hk); (try clear hi)) | (go_at_call 84; (with_reducible refine (strings_TrimLeft.calls (t147 ++ t148) (⟨#[48]⟩ : ByteArray) t149 _ A7.out).mono ?_); rintro e w13 ⟨rfl, hb⟩; replace BK146 := Aside0.mk (bb BK146 hb); replace HB := Aside0.mk (below_step (bw HB) hb); (try clear hb); (try clear hb2); (try clear hk); (try clear hi)))
   repeat (go_quiet (first | ((with_reducible refine gate_dst (N := 2) rfl ?_); refine box_event ?hg (N := 2) ?hd (cs := #[.int .i64 a0_0, .int .i64 a0_1]) (t := 23) ?hr ?_; (case hd => rfl); (case hg => rfl); (case hr => first | (go_simp; done) | (go_simp; rfl)); intro gb146 hg w8 hbox hb; have BK146 := Aside0.mk (hbox); have GW146 := Aside0.mk (bs HB hg : w.heap.size ≤ gb146); replace HB := Aside0.mk (below_step (bw HB) hb); clear hb hbox hg; obtain ⟨hcz9_0, hcz9_1, hfz9_0, hfz9_1⟩ := cf2 BK146) | (go_at_call 32; (with_reducible refine (texts_magnitude.calls a0_0 t147 _ (env_at HE_.out (bw HB)) A3.out).mono ?_); rintro e w10 ⟨rfl, hb⟩; replace BK146 := Aside0.mk (bb BK146 hb); replace HB := Aside0.mk (below_step (bw HB) hb); (try clear hb); (try clear hb2); (try clear hk); (try clear hi); obtain ⟨hcz11_0, hcz11_1, hfz11_0, hfz11_1⟩ := cf2 BK146) | (go_at_call 36; (with_reducible refine (strings_Repeat.calls (⟨#[48]⟩ : ByteArray) (wrap64 (a0_1 + a1)) t148 _ A5.out).mono ?_); rintro e w12 ⟨rfl, hb⟩; replace BK146 := Aside0.mk (bb BK146 hb); replace HB := Aside0.mk (below_step (bw HB) hb); (try clear hb); (try clear hb2); (try clear hk); (try clear hi)) | (go_at_call 84; (with_reducible refine (strings_TrimLeft.calls (t147 ++ t148) (⟨#[48]⟩ : ByteArray) t149 _ A7.out).mono ?_); rintro e w13 ⟨rfl, hb⟩; replace BK146 := Aside0.mk (bb BK146 hb); replace HB := Aside0.mk (below_step (bw HB) hb); (try clear hb); (try clear hb2); (try clear hk); (try clear hi))); try go_wp2_with (first | ((with_reducible refine gate_dst (N := 2) rfl ?_); refine box_event ?hg (N := 2) ?hd (cs := #[.int .i64 a0_0, .int .i64 a0_1]) (t := 23) ?hr ?_; (case hd => rfl); (case hg => rfl); (case hr => first | (go_simp; done) | (go_simp; rfl)); intro gb146 hg w8 hbox hb; have BK146 := Aside0.mk (hbox); have GW146 := Aside0.mk (bs HB hg : w.heap.size ≤ gb146); replace HB := Aside0.mk (below_step (bw HB) hb); clear hb hbox hg; obtain ⟨hcz9_0, hcz9_1, hfz9_0, hfz9_1⟩ := cf2 BK146) | (go_at_call 32; (with_reducible refine (texts_magnitude.calls a0_0 t147 _ (env_at HE_.out (bw HB)) A3.out).mono ?_); rintro e w10 ⟨rfl, hb⟩; replace BK146 := Aside0.mk (bb BK146 hb); replace HB := Aside0.mk (below_step (bw HB) hb); (try clear hb); (try clear hb2); (try clear hk); (try clear hi); obtain ⟨hcz11_0, hcz11_1, hfz11_0, hfz11_1⟩ := cf2 BK146) | (go_at_call 36; (with_reducible refine (strings_Repeat.calls (⟨#[48]⟩ : ByteArray) (wrap64 (a0_1 + a1)) t148 _ A5.out).mono ?_); rintro e w12 ⟨rfl, hb⟩; replace BK146 := Aside0.mk (bb BK146 hb); replace HB := Aside0.mk (below_step (bw HB) hb); (try clear hb); (try clear hb2); (try clear hk); (try clear hi)) | (go_at_call 84; (with_reducible refine (strings_TrimLeft.calls (t147 ++ t148) (⟨#[48]⟩ : ByteArray) t149 _ A7.out).mono ?_); rintro e w13 ⟨rfl, hb⟩; replace BK146 := Aside0.mk (bb BK146 hb); replace HB := Aside0.mk (below_step (bw HB) hb); (try clear hb); (try clear hb2); (try clear hk); (try clear hi))))
   go_ret
   exact ⟨by first | rfl | (simp [errW_none, errW_some] <;> rfl) | (simp [*, errW_none, errW_some] <;> rfl), bw HB⟩
  ·rw [if_neg c6] at H
   exact absurd H (by simp)
 ·rw [if_neg c4] at H
  have c4b0 : decide (0 ≤ (wrap64 (a0_1 + a1))) = false := decide_eq_false c4
  clear c4
  by_cases c14 : (wrap64 (-(wrap64 (a0_1 + a1)))) > (t147.size : Int)
  ·rw [if_pos c14] at H
   have c14b0 : decide ((t147.size : Int) < (wrap64 (-(wrap64 (a0_1 + a1))))) = true := decide_eq_true c14
   clear c14
   obtain rfl := Option.some.inj H
   go_enter Tryz.func37, Tryz.ntmps37
   go_wp2_with (first | ((with_reducible refine gate_dst (N := 2) rfl ?_); refine box_event ?hg (N := 2) ?hd (cs := #[.int .i64 a0_0, .int .i64 a0_1]) (t := 23) ?hr ?_; (case hd => rfl); (case hg => rfl); (case hr => first | (go_simp; done) | (go_simp; rfl)); intro gb146 hg w15 hbox hb; have BK146 := Aside0.mk (hbox); have GW146 := Aside0.mk (bs HB hg : w.heap.size ≤ gb146); replace HB := Aside0.mk (below_step (bw HB) hb); clear hb hbox hg; obtain ⟨hcz16_0, hcz16_1, hfz16_0, hfz16_1⟩ := cf2 BK146) | (go_at_call 32; (with_reducible refine (texts_magnitude.calls a0_0 t147 _ (env_at HE_.out (bw HB)) A3.out).mono ?_); rintro e w17 ⟨rfl, hb⟩; replace BK146 := Aside0.mk (bb BK146 hb); replace HB := Aside0.mk (below_step (bw HB) hb); (try clear hb); (try clear hb2); (try clear hk); (try clear hi); obtain ⟨hcz18_0, hcz18_1, hfz18_0, hfz18_1⟩ := cf2 BK146))
   repeat (go_quiet (first | ((with_reducible refine gate_dst (N := 2) rfl ?_); refine box_event ?hg (N := 2) ?hd (cs := #[.int .i64 a0_0, .int .i64 a0_1]) (t := 23) ?hr ?_; (case hd => rfl); (case hg => rfl); (case hr => first | (go_simp; done) | (go_simp; rfl)); intro gb146 hg w15 hbox hb; have BK146 := Aside0.mk (hbox); have GW146 := Aside0.mk (bs HB hg : w.heap.size ≤ gb146); replace HB := Aside0.mk (below_step (bw HB) hb); clear hb hbox hg; obtain ⟨hcz16_0, hcz16_1, hfz16_0, hfz16_1⟩ := cf2 BK146) | (go_at_call 32; (with_reducible refine (texts_magnitude.calls a0_0 t147 _ (env_at HE_.out (bw HB)) A3.out).mono ?_); rintro e w17 ⟨rfl, hb⟩; replace BK146 := Aside0.mk (bb BK146 hb); replace HB := Aside0.mk (below_step (bw HB) hb); (try clear hb); (try clear hb2); (try clear hk); (try clear hi); obtain ⟨hcz18_0, hcz18_1, hfz18_0, hfz18_1⟩ := cf2 BK146)); try go_wp2_with (first | ((with_reducible refine gate_dst (N := 2) rfl ?_); refine box_event ?hg (N := 2) ?hd (cs := #[.int .i64 a0_0, .int .i64 a0_1]) (t := 23) ?hr ?_; (case hd => rfl); (case hg => rfl); (case hr => first | (go_simp; done) | (go_simp; rfl)); intro gb146 hg w15 hbox hb; have BK146 := Aside0.mk (hbox); have GW146 := Aside0.mk (bs HB hg : w.heap.size ≤ gb146); replace HB := Aside0.mk (below_step (bw HB) hb); clear hb hbox hg; obtain ⟨hcz16_0, hcz16_1, hfz16_0, hfz16_1⟩ := cf2 BK146) | (go_at_call 32; (with_reducible refine (texts_magnitude.calls a0_0 t147 _ (env_at HE_.out (bw HB)) A3.out).mono ?_); rintro e w17 ⟨rfl, hb⟩; replace BK146 := Aside0.mk (bb BK146 hb); replace HB := Aside0.mk (below_step (bw HB) hb); (try clear hb); (try clear hb2); (try clear hk); (try clear hi); obtain ⟨hcz18_0, hcz18_1, hfz18_0, hfz18_1⟩ := cf2 BK146)))
   go_ret
   exact ⟨by first | rfl | (simp [errW_none, errW_some] <;> rfl) | (simp [*, errW_none, errW_some] <;> rfl), bw HB⟩
  ·rw [if_neg c14] at H
   have c14b0 : decide ((t147.size : Int) < (wrap64 (-(wrap64 (a0_1 + a1))))) = false := decide_eq_false c14
   clear c14
   obtain ⟨ji19, hji19⟩ : ∃ j_ : Int, (wrap64 ((t147.size : Int) - (wrap64 (-(wrap64 (a0_1 + a1)))))) = j_ := ⟨_, rfl⟩
   replace H : (if 0 ≤ (ji19) then (if (ji19) ≤ (t147.size : Int) then (if 0 < ((t147.extract ((ji19) : Int).toNat t147.size).size : Int) then (if (bt (t147.extract ((ji19) : Int).toNat t147.size) 0) ≥ 53 then (if 1 + (t147.extract 0 ((ji19) : Int).toNat).size ≤ 9223372036854775807 then ((texts_more.f ((⟨#[48]⟩ : ByteArray) ++ (t147.extract 0 ((ji19) : Int).toNat))).bind fun t150 => ((strings_TrimLeft.f t150 (⟨#[48]⟩ : ByteArray)).bind fun t151 => (some t151))) else (none)) else ((strings_TrimLeft.f (t147.extract 0 ((ji19) : Int).toNat) (⟨#[48]⟩ : ByteArray)).bind fun t152 => (some t152))) else (none)) else (none)) else (none)) = some r := by first | (rw [hji19] at H; exact H) | (simp only [hji19] at H ⊢; exact H)
   (try rw [hji19] at A3)
   have hji19w : (IntKind.i64.wrap ((t147.size : Int) - (wrap64 (-(wrap64 (a0_1 + a1)))))) = ji19 := (i64_w _).trans hji19
   obtain ⟨XK_, hXK_⟩ : ∃ X : ByteArray, (t147.extract 0 ((ji19) : Int).toNat) = X := ⟨_, rfl⟩
   obtain ⟨XR_, hXR_⟩ : ∃ X : ByteArray, (t147.extract ((ji19) : Int).toNat t147.size) = X := ⟨_, rfl⟩
   rw [hXR_, hXK_] at H
   by_cases c20 : 0 ≤ (ji19)
   ·rw [if_pos c20] at H
    have c20b0 := eq_true c20
    have c20b1 : decide (0 ≤ (ji19)) = true := decide_eq_true c20
    clear c20
    by_cases c21 : (ji19) ≤ (t147.size : Int)
    ·rw [if_pos c21] at H
     have c21b0 := eq_true c21
     have c21b1 : decide ((ji19) ≤ (t147.size : Int)) = true := decide_eq_true c21
     clear c21
     have c22b0 := eq_true (of_decide_eq_true (by first | (with_reducible assumption) | assumption) : 0 ≤ (ji19))
     have c23b0 := eq_true (of_decide_eq_true (by first | (with_reducible assumption) | assumption) : (ji19) ≤ (t147.size : Int))
     by_cases c24 : 0 < (XR_.size : Int)
     ·rw [if_pos c24] at H
      have c24b0 : decide (0 < (XR_.size : Int)) = true := decide_eq_true c24
      have c24b1 : decide (0 < XR_.size) = true := decide_eq_true (by omega)
      clear c24
      by_cases c26 : (bt XR_ 0) ≥ 53
      ·rw [if_pos c26] at H
       have c26b0 : decide (53 ≤ (bt XR_ 0)) = true := decide_eq_true c26
       clear c26
       by_cases c27 : 1 + XK_.size ≤ 9223372036854775807
       ·rw [if_pos c27] at H
        have c27b0 := eq_true c27
        have c27b1 : decide (1 + XK_.size ≤ 9223372036854775807) = true := decide_eq_true c27
        try have c27b2 : (9223372036854775807 < 1 + XK_.size) = False := eq_false (Nat.not_lt.2 c27)
        replace H := Option.bind_eq_some_iff.mp H
        obtain ⟨t150, A280, H⟩ := H
        replace H : ((strings_TrimLeft.f t150 (⟨#[48]⟩ : ByteArray)).bind fun t151 => (some t151)) = some r := H
        have A28 := Aside0.mk A280
        clear A280
        replace H := Option.bind_eq_some_iff.mp H
        obtain ⟨t151, A290, H⟩ := H
        replace H : (some t151) = some r := H
        have A29 := Aside0.mk A290
        clear A290
        obtain rfl := Option.some.inj H
        go_enter Tryz.func37, Tryz.ntmps37
        go_wp2_with (first | ((with_reducible refine gate_dst (N := 2) rfl ?_); refine box_event ?hg (N := 2) ?hd (cs := #[.int .i64 a0_0, .int .i64 a0_1]) (t := 23) ?hr ?_; (case hd => rfl); (case hg => rfl); (case hr => first | (go_simp; done) | (go_simp; rfl)); intro gb146 hg w30 hbox hb; have BK146 := Aside0.mk (hbox); have GW146 := Aside0.mk (bs HB hg : w.heap.size ≤ gb146); replace HB := Aside0.mk (below_step (bw HB) hb); clear hb hbox hg; obtain ⟨hcz31_0, hcz31_1, hfz31_0, hfz31_1⟩ := cf2 BK146) | (go_at_call 32; (with_reducible refine (texts_magnitude.calls a0_0 t147 _ (env_at HE_.out (bw HB)) A3.out).mono ?_); rintro e w32 ⟨rfl, hb⟩; replace BK146 := Aside0.mk (bb BK146 hb); replace HB := Aside0.mk (below_step (bw HB) hb); (try clear hb); (try clear hb2); (try clear hk); (try clear hi); obtain ⟨hcz33_0, hcz33_1, hfz33_0, hfz33_1⟩ := cf2 BK146; have p25 : 0 ≤ (0 : Int) := (by omega); have q25 : 0 < XR_.size := (by have : (0 : Int) < (XR_.size : Int) := of_decide_eq_true (by first | (with_reducible assumption) | assumption); omega); have hx25 : ∀ h : 0 < XR_.size, ((XR_[0]'h).toNat : Int) = bt XR_ 0 := bt_at XR_ 0; clear p25; have qi25 : (0 < (XR_.size : Int)) = True := eq_true (of_decide_eq_true (by first | (with_reducible assumption) | assumption)); replace q25 := eq_true q25) | (go_at_call 85; (with_reducible refine (texts_more.calls ((⟨#[48]⟩ : ByteArray) ++ XK_) t150 _ A28.out).mono ?_); rintro e w34 ⟨rfl, hb⟩; replace BK146 := Aside0.mk (bb BK146 hb); replace HB := Aside0.mk (below_step (bw HB) hb); (try clear hb); (try clear hb2); (try clear hk); (try clear hi)) | (go_at_call 84; (with_reducible refine (strings_TrimLeft.calls t150 (⟨#[48]⟩ : ByteArray) t151 _ A29.out).mono ?_); rintro e w35 ⟨rfl, hb⟩; replace BK146 := Aside0.mk (bb BK146 hb); replace HB := Aside0.mk (below_step (bw HB) hb); (try clear hb); (try clear hb2); (try clear hk); (try clear hi)))
        repeat (go_quiet (first | ((with_reducible refine gate_dst (N := 2) rfl ?_); refine box_event ?hg (N := 2) ?hd (cs := #[.int .i64 a0_0, .int .i64 a0_1]) (t := 23) ?hr ?_; (case hd => rfl); (case hg => rfl); (case hr => first | (go_simp; done) | (go_simp; rfl)); intro gb146 hg w30 hbox hb; have BK146 := Aside0.mk (hbox); have GW146 := Aside0.mk (bs HB hg : w.heap.size ≤ gb146); replace HB := Aside0.mk (below_step (bw HB) hb); clear hb hbox hg; obtain ⟨hcz31_0, hcz31_1, hfz31_0, hfz31_1⟩ := cf2 BK146) | (go_at_call 32; (with_reducible refine (texts_magnitude.calls a0_0 t147 _ (env_at HE_.out (bw HB)) A3.out).mono ?_); rintro e w32 ⟨rfl, hb⟩; replace BK146 := Aside0.mk (bb BK146 hb); replace HB := Aside0.mk (below_step (bw HB) hb); (try clear hb); (try clear hb2); (try clear hk); (try clear hi); obtain ⟨hcz33_0, hcz33_1, hfz33_0, hfz33_1⟩ := cf2 BK146; have p25 : 0 ≤ (0 : Int) := (by omega); have q25 : 0 < XR_.size := (by have : (0 : Int) < (XR_.size : Int) := of_decide_eq_true (by first | (with_reducible assumption) | assumption); omega); have hx25 : ∀ h : 0 < XR_.size, ((XR_[0]'h).toNat : Int) = bt XR_ 0 := bt_at XR_ 0; clear p25; have qi25 : (0 < (XR_.size : Int)) = True := eq_true (of_decide_eq_true (by first | (with_reducible assumption) | assumption)); replace q25 := eq_true q25) | (go_at_call 85; (with_reducible refine (texts_more.calls ((⟨#[48]⟩ : ByteArray) ++ XK_) t150 _ A28.out).mono ?_); rintro e w34 ⟨rfl, hb⟩; replace BK146 := Aside0.mk (bb BK146 hb); replace HB := Aside0.mk (below_step (bw HB) hb); (try clear hb); (try clear hb2); (try clear hk); (try clear hi)) | (go_at_call 84; (with_reducible refine (strings_TrimLeft.calls t150 (⟨#[48]⟩ : ByteArray) t151 _ A29.out).mono ?_); rintro e w35 ⟨rfl, hb⟩; replace BK146 := Aside0.mk (bb BK146 hb); replace HB := Aside0.mk (below_step (bw HB) hb); (try clear hb); (try clear hb2); (try clear hk); (try clear hi))); try go_wp2_with (first | ((with_reducible refine gate_dst (N := 2) rfl ?_); refine box_event ?hg (N := 2) ?hd (cs := #[.int .i64 a0_0, .int .i64 a0_1]) (t := 23) ?hr ?_; (case hd => rfl); (case hg => rfl); (case hr => first | (go_simp; done) | (go_simp; rfl)); intro gb146 hg w30 hbox hb; have BK146 := Aside0.mk (hbox); have GW146 := Aside0.mk (bs HB hg : w.heap.size ≤ gb146); replace HB := Aside0.mk (below_step (bw HB) hb); clear hb hbox hg; obtain ⟨hcz31_0, hcz31_1, hfz31_0, hfz31_1⟩ := cf2 BK146) | (go_at_call 32; (with_reducible refine (texts_magnitude.calls a0_0 t147 _ (env_at HE_.out (bw HB)) A3.out).mono ?_); rintro e w32 ⟨rfl, hb⟩; replace BK146 := Aside0.mk (bb BK146 hb); replace HB := Aside0.mk (below_step (bw HB) hb); (try clear hb); (try clear hb2); (try clear hk); (try clear hi); obtain ⟨hcz33_0, hcz33_1, hfz33_0, hfz33_1⟩ := cf2 BK146; have p25 : 0 ≤ (0 : Int) := (by omega); have q25 : 0 < XR_.size := (by have : (0 : Int) < (XR_.size : Int) := of_decide_eq_true (by first | (with_reducible assumption) | assumption); omega); have hx25 : ∀ h : 0 < XR_.size, ((XR_[0]'h).toNat : Int) = bt XR_ 0 := bt_at XR_ 0; clear p25; have qi25 : (0 < (XR_.size : Int)) = True := eq_true (of_decide_eq_true (by first | (with_reducible assumption) | assumption)); replace q25 := eq_true q25) | (go_at_call 85; (with_reducible refine (texts_more.calls ((⟨#[48]⟩ : ByteArray) ++ XK_) t150 _ A28.out).mono ?_); rintro e w34 ⟨rfl, hb⟩; replace BK146 := Aside0.mk (bb BK146 hb); replace HB := Aside0.mk (below_step (bw HB) hb); (try clear hb); (try clear hb2); (try clear hk); (try clear hi)) | (go_at_call 84; (with_reducible refine (strings_TrimLeft.calls t150 (⟨#[48]⟩ : ByteArray) t151 _ A29.out).mono ?_); rintro e w35 ⟨rfl, hb⟩; replace BK146 := Aside0.mk (bb BK146 hb); replace HB := Aside0.mk (below_step (bw HB) hb); (try clear hb); (try clear hb2); (try clear hk); (try clear hi))))
        go_ret
        exact ⟨by first | rfl | (simp [errW_none, errW_some] <;> rfl) | (simp only [← hji19]; first | rfl | (simp [errW_none, errW_some] <;> rfl)) | (simp [*, errW_none, errW_some] <;> rfl), bw HB⟩
       ·rw [if_neg c27] at H
        exact absurd H (by simp)
      ·rw [if_neg c26] at H
       have c26b0 : decide (53 ≤ (bt XR_ 0)) = false := decide_eq_false c26
       clear c26
       replace H := Option.bind_eq_some_iff.mp H
       obtain ⟨t152, A360, H⟩ := H
       replace H : (some t152) = some r := H
       have A36 := Aside0.mk A360
       clear A360
       obtain rfl := Option.some.inj H
       go_enter Tryz.func37, Tryz.ntmps37
       go_wp2_with (first | ((with_reducible refine gate_dst (N := 2) rfl ?_); refine box_event ?hg (N := 2) ?hd (cs := #[.int .i64 a0_0, .int .i64 a0_1]) (t := 23) ?hr ?_; (case hd => rfl); (case hg => rfl); (case hr => first | (go_simp; done) | (go_simp; rfl)); intro gb146 hg w37 hbox hb; have BK146 := Aside0.mk (hbox); have GW146 := Aside0.mk (bs HB hg : w.heap.size ≤ gb146); replace HB := Aside0.mk (below_step (bw HB) hb); clear hb hbox hg; obtain ⟨hcz38_0, hcz38_1, hfz38_0, hfz38_1⟩ := cf2 BK146) | (go_at_call 32; (with_reducible refine (texts_magnitude.calls a0_0 t147 _ (env_at HE_.out (bw HB)) A3.out).mono ?_); rintro e w39 ⟨rfl, hb⟩; replace BK146 := Aside0.mk (bb BK146 hb); replace HB := Aside0.mk (below_step (bw HB) hb); (try clear hb); (try clear hb2); (try clear hk); (try clear hi); obtain ⟨hcz40_0, hcz40_1, hfz40_0, hfz40_1⟩ := cf2 BK146; have p25 : 0 ≤ (0 : Int) := (by omega); have q25 : 0 < XR_.size := (by have : (0 : Int) < (XR_.size : Int) := of_decide_eq_true (by first | (with_reducible assumption) | assumption); omega); have hx25 : ∀ h : 0 < XR_.size, ((XR_[0]'h).toNat : Int) = bt XR_ 0 := bt_at XR_ 0; clear p25; have qi25 : (0 < (XR_.size : Int)) = True := eq_true (of_decide_eq_true (by first | (with_reducible assumption) | assumption)); replace q25 := eq_true q25) | (go_at_call 84; (with_reducible refine (strings_TrimLeft.calls XK_ (⟨#[48]⟩ : ByteArray) t152 _ A36.out).mono ?_); rintro e w41 ⟨rfl, hb⟩; replace BK146 := Aside0.mk (bb BK146 hb); replace HB := Aside0.mk (below_step (bw HB) hb); (try clear hb); (try clear hb2); (try clear hk); (try clear hi)))
       repeat (go_quiet (first | ((with_reducible refine gate_dst (N := 2) rfl ?_); refine box_event ?hg (N := 2) ?hd (cs := #[.int .i64 a0_0, .int .i64 a0_1]) (t := 23) ?hr ?_; (case hd => rfl); (case hg => rfl); (case hr => first | (go_simp; done) | (go_simp; rfl)); intro gb146 hg w37 hbox hb; have BK146 := Aside0.mk (hbox); have GW146 := Aside0.mk (bs HB hg : w.heap.size ≤ gb146); replace HB := Aside0.mk (below_step (bw HB) hb); clear hb hbox hg; obtain ⟨hcz38_0, hcz38_1, hfz38_0, hfz38_1⟩ := cf2 BK146) | (go_at_call 32; (with_reducible refine (texts_magnitude.calls a0_0 t147 _ (env_at HE_.out (bw HB)) A3.out).mono ?_); rintro e w39 ⟨rfl, hb⟩; replace BK146 := Aside0.mk (bb BK146 hb); replace HB := Aside0.mk (below_step (bw HB) hb); (try clear hb); (try clear hb2); (try clear hk); (try clear hi); obtain ⟨hcz40_0, hcz40_1, hfz40_0, hfz40_1⟩ := cf2 BK146; have p25 : 0 ≤ (0 : Int) := (by omega); have q25 : 0 < XR_.size := (by have : (0 : Int) < (XR_.size : Int) := of_decide_eq_true (by first | (with_reducible assumption) | assumption); omega); have hx25 : ∀ h : 0 < XR_.size, ((XR_[0]'h).toNat : Int) = bt XR_ 0 := bt_at XR_ 0; clear p25; have qi25 : (0 < (XR_.size : Int)) = True := eq_true (of_decide_eq_true (by first | (with_reducible assumption) | assumption)); replace q25 := eq_true q25) | (go_at_call 84; (with_reducible refine (strings_TrimLeft.calls XK_ (⟨#[48]⟩ : ByteArray) t152 _ A36.out).mono ?_); rintro e w41 ⟨rfl, hb⟩; replace BK146 := Aside0.mk (bb BK146 hb); replace HB := Aside0.mk (below_step (bw HB) hb); (try clear hb); (try clear hb2); (try clear hk); (try clear hi))); try go_wp2_with (first | ((with_reducible refine gate_dst (N := 2) rfl ?_); refine box_event ?hg (N := 2) ?hd (cs := #[.int .i64 a0_0, .int .i64 a0_1]) (t := 23) ?hr ?_; (case hd => rfl); (case hg => rfl); (case hr => first | (go_simp; done) | (go_simp; rfl)); intro gb146 hg w37 hbox hb; have BK146 := Aside0.mk (hbox); have GW146 := Aside0.mk (bs HB hg : w.heap.size ≤ gb146); replace HB := Aside0.mk (below_step (bw HB) hb); clear hb hbox hg; obtain ⟨hcz38_0, hcz38_1, hfz38_0, hfz38_1⟩ := cf2 BK146) | (go_at_call 32; (with_reducible refine (texts_magnitude.calls a0_0 t147 _ (env_at HE_.out (bw HB)) A3.out).mono ?_); rintro e w39 ⟨rfl, hb⟩; replace BK146 := Aside0.mk (bb BK146 hb); replace HB := Aside0.mk (below_step (bw HB) hb); (try clear hb); (try clear hb2); (try clear hk); (try clear hi); obtain ⟨hcz40_0, hcz40_1, hfz40_0, hfz40_1⟩ := cf2 BK146; have p25 : 0 ≤ (0 : Int) := (by omega); have q25 : 0 < XR_.size := (by have : (0 : Int) < (XR_.size : Int) := of_decide_eq_true (by first | (with_reducible assumption) | assumption); omega); have hx25 : ∀ h : 0 < XR_.size, ((XR_[0]'h).toNat : Int) = bt XR_ 0 := bt_at XR_ 0; clear p25; have qi25 : (0 < (XR_.size : Int)) = True := eq_true (of_decide_eq_true (by first | (with_reducible assumption) | assumption)); replace q25 := eq_true q25) | (go_at_call 84; (with_reducible refine (strings_TrimLeft.calls XK_ (⟨#[48]⟩ : ByteArray) t152 _ A36.out).mono ?_); rintro e w41 ⟨rfl, hb⟩; replace BK146 := Aside0.mk (bb BK146 hb); replace HB := Aside0.mk (below_step (bw HB) hb); (try clear hb); (try clear hb2); (try clear hk); (try clear hi))))
       go_ret
       exact ⟨by first | rfl | (simp [errW_none, errW_some] <;> rfl) | (simp only [← hji19]; first | rfl | (simp [errW_none, errW_some] <;> rfl)) | (simp [*, errW_none, errW_some] <;> rfl), bw HB⟩
     ·rw [if_neg c24] at H
      exact absurd H (by simp)
    ·rw [if_neg c21] at H
     exact absurd H (by simp)
   ·rw [if_neg c20] at H
    exact absurd H (by simp)

/-! ### texts_pointed: function 34 -/
def texts_pointed.f (a0_0 : Int) (a0_1 : Int) (a1 : Int) : Option (ByteArray) := (texts_scaled.f a0_0 a0_1 a1).bind fun t154 => (if (t154.size : Int) ≤ a1 then ((strings_Repeat.f (⟨#[48]⟩ : ByteArray) (wrap64 ((wrap64 (a1 + 1)) - (t154.size : Int)))).bind fun t155 => (if t155.size + t154.size ≤ 9223372036854775807 then (if a1 = 0 then (some (t155 ++ t154)) else (if 0 ≤ (wrap64 (((t155 ++ t154).size : Int) - a1)) then (if (wrap64 (((t155 ++ t154).size : Int) - a1)) ≤ ((t155 ++ t154).size : Int) then (if ((t155 ++ t154).extract 0 ((wrap64 (((t155 ++ t154).size : Int) - a1)) : Int).toNat).size + 1 ≤ 9223372036854775807 then (if (((t155 ++ t154).extract 0 ((wrap64 (((t155 ++ t154).size : Int) - a1)) : Int).toNat) ++ (⟨#[46]⟩ : ByteArray)).size + ((t155 ++ t154).extract ((wrap64 (((t155 ++ t154).size : Int) - a1)) : Int).toNat (t155 ++ t154).size).size ≤ 9223372036854775807 then (some ((((t155 ++ t154).extract 0 ((wrap64 (((t155 ++ t154).size : Int) - a1)) : Int).toNat) ++ (⟨#[46]⟩ : ByteArray)) ++ ((t155 ++ t154).extract ((wrap64 (((t155 ++ t154).size : Int) - a1)) : Int).toNat (t155 ++ t154).size))) else (none)) else (none)) else (none)) else (none))) else (none))) else (if a1 = 0 then (some t154) else (if 0 ≤ (wrap64 ((t154.size : Int) - a1)) then (if (wrap64 ((t154.size : Int) - a1)) ≤ (t154.size : Int) then (if (t154.extract 0 ((wrap64 ((t154.size : Int) - a1)) : Int).toNat).size + 1 ≤ 9223372036854775807 then (if ((t154.extract 0 ((wrap64 ((t154.size : Int) - a1)) : Int).toNat) ++ (⟨#[46]⟩ : ByteArray)).size + (t154.extract ((wrap64 ((t154.size : Int) - a1)) : Int).toNat t154.size).size ≤ 9223372036854775807 then (some (((t154.extract 0 ((wrap64 ((t154.size : Int) - a1)) : Int).toNat) ++ (⟨#[46]⟩ : ByteArray)) ++ (t154.extract ((wrap64 ((t154.size : Int) - a1)) : Int).toNat t154.size))) else (none)) else (none)) else (none)) else (none))))
set_option maxHeartbeats 8000000 in
set_option maxRecDepth 100000 in
theorem texts_pointed.calls (a0_0 : Int) (a0_1 : Int) (a1 : Int) (r : ByteArray) (w : World) (hE : Env w) (h : texts_pointed.f a0_0 a0_1 a1 = some r) :
  Calls Tryz.prog 34 #[.agg #[.int .i64 a0_0, .int .i64 a0_1], .int .i64 a1] w fun e w' => e = .returned (.string r) ∧ Below w.heap.size w w' := by
 have HE_ := Aside0.mk hE
 clear hE
 have hu23 := Tryz.underlying23
 have HB := Aside0.mk (Below.refl w.heap.size w)
 have H : ((texts_scaled.f a0_0 a0_1 a1).bind fun t154 => (if (t154.size : Int) ≤ a1 then ((strings_Repeat.f (⟨#[48]⟩ : ByteArray) (wrap64 ((wrap64 (a1 + 1)) - (t154.size : Int)))).bind fun t155 => (if t155.size + t154.size ≤ 9223372036854775807 then (if a1 = 0 then (some (t155 ++ t154)) else (if 0 ≤ (wrap64 (((t155 ++ t154).size : Int) - a1)) then (if (wrap64 (((t155 ++ t154).size : Int) - a1)) ≤ ((t155 ++ t154).size : Int) then (if ((t155 ++ t154).extract 0 ((wrap64 (((t155 ++ t154).size : Int) - a1)) : Int).toNat).size + 1 ≤ 9223372036854775807 then (if (((t155 ++ t154).extract 0 ((wrap64 (((t155 ++ t154).size : Int) - a1)) : Int).toNat) ++ (⟨#[46]⟩ : ByteArray)).size + ((t155 ++ t154).extract ((wrap64 (((t155 ++ t154).size : Int) - a1)) : Int).toNat (t155 ++ t154).size).size ≤ 9223372036854775807 then (some ((((t155 ++ t154).extract 0 ((wrap64 (((t155 ++ t154).size : Int) - a1)) : Int).toNat) ++ (⟨#[46]⟩ : ByteArray)) ++ ((t155 ++ t154).extract ((wrap64 (((t155 ++ t154).size : Int) - a1)) : Int).toNat (t155 ++ t154).size))) else (none)) else (none)) else (none)) else (none))) else (none))) else (if a1 = 0 then (some t154) else (if 0 ≤ (wrap64 ((t154.size : Int) - a1)) then (if (wrap64 ((t154.size : Int) - a1)) ≤ (t154.size : Int) then (if (t154.extract 0 ((wrap64 ((t154.size : Int) - a1)) : Int).toNat).size + 1 ≤ 9223372036854775807 then (if ((t154.extract 0 ((wrap64 ((t154.size : Int) - a1)) : Int).toNat) ++ (⟨#[46]⟩ : ByteArray)).size + (t154.extract ((wrap64 ((t154.size : Int) - a1)) : Int).toNat t154.size).size ≤ 9223372036854775807 then (some (((t154.extract 0 ((wrap64 ((t154.size : Int) - a1)) : Int).toNat) ++ (⟨#[46]⟩ : ByteArray)) ++ (t154.extract ((wrap64 ((t154.size : Int) - a1)) : Int).toNat t154.size))) else (none)) else (none)) else (none)) else (none))))) = some r := h
 clear h
 replace H := Option.bind_eq_some_iff.mp H
 obtain ⟨t154, A30, H⟩ := H
 replace H : (if (t154.size : Int) ≤ a1 then ((strings_Repeat.f (⟨#[48]⟩ : ByteArray) (wrap64 ((wrap64 (a1 + 1)) - (t154.size : Int)))).bind fun t155 => (if t155.size + t154.size ≤ 9223372036854775807 then (if a1 = 0 then (some (t155 ++ t154)) else (if 0 ≤ (wrap64 (((t155 ++ t154).size : Int) - a1)) then (if (wrap64 (((t155 ++ t154).size : Int) - a1)) ≤ ((t155 ++ t154).size : Int) then (if ((t155 ++ t154).extract 0 ((wrap64 (((t155 ++ t154).size : Int) - a1)) : Int).toNat).size + 1 ≤ 9223372036854775807 then (if (((t155 ++ t154).extract 0 ((wrap64 (((t155 ++ t154).size : Int) - a1)) : Int).toNat) ++ (⟨#[46]⟩ : ByteArray)).size + ((t155 ++ t154).extract ((wrap64 (((t155 ++ t154).size : Int) - a1)) : Int).toNat (t155 ++ t154).size).size ≤ 9223372036854775807 then (some ((((t155 ++ t154).extract 0 ((wrap64 (((t155 ++ t154).size : Int) - a1)) : Int).toNat) ++ (⟨#[46]⟩ : ByteArray)) ++ ((t155 ++ t154).extract ((wrap64 (((t155 ++ t154).size : Int) - a1)) : Int).toNat (t155 ++ t154).size))) else (none)) else (none)) else (none)) else (none))) else (none))) else (if a1 = 0 then (some t154) else (if 0 ≤ (wrap64 ((t154.size : Int) - a1)) then (if (wrap64 ((t154.size : Int) - a1)) ≤ (t154.size : Int) then (if (t154.extract 0 ((wrap64 ((t154.size : Int) - a1)) : Int).toNat).size + 1 ≤ 9223372036854775807 then (if ((t154.extract 0 ((wrap64 ((t154.size : Int) - a1)) : Int).toNat) ++ (⟨#[46]⟩ : ByteArray)).size + (t154.extract ((wrap64 ((t154.size : Int) - a1)) : Int).toNat t154.size).size ≤ 9223372036854775807 then (some (((t154.extract 0 ((wrap64 ((t154.size : Int) - a1)) : Int).toNat) ++ (⟨#[46]⟩ : ByteArray)) ++ (t154.extract ((wrap64 ((t154.size : Int) - a1)) : Int).toNat t154.size))) else (none)) else (none)) else (none)) else (none)))) = some r := H
 have A3 := Aside0.mk A30
 clear A30
 by_cases c4 : (t154.size : Int) ≤ a1
 ·rw [if_pos c4] at H
  have c4b0 : decide ((t154.size : Int) ≤ a1) = true := decide_eq_true c4
  clear c4
  replace H := Option.bind_eq_some_iff.mp H
  obtain ⟨t155, A50, H⟩ := H
  replace H : (if t155.size + t154.size ≤ 9223372036854775807 then (if a1 = 0 then (some (t155 ++ t154)) else (if 0 ≤ (wrap64 (((t155 ++ t154).size : Int) - a1)) then (if (wrap64 (((t155 ++ t154).size : Int) - a1)) ≤ ((t155 ++ t154).size : Int) then (if ((t155 ++ t154).extract 0 ((wrap64 (((t155 ++ t154).size : Int) - a1)) : Int).toNat).size + 1 ≤ 9223372036854775807 then (if (((t155 ++ t154).extract 0 ((wrap64 (((t155 ++ t154).size : Int) - a1)) : Int).toNat) ++ (⟨#[46]⟩ : ByteArray)).size + ((t155 ++ t154).extract ((wrap64 (((t155 ++ t154).size : Int) - a1)) : Int).toNat (t155 ++ t154).size).size ≤ 9223372036854775807 then (some ((((t155 ++ t154).extract 0 ((wrap64 (((t155 ++ t154).size : Int) - a1)) : Int).toNat) ++ (⟨#[46]⟩ : ByteArray)) ++ ((t155 ++ t154).extract ((wrap64 (((t155 ++ t154).size : Int) - a1)) : Int).toNat (t155 ++ t154).size))) else (none)) else (none)) else (none)) else (none))) else (none)) = some r := H
  have A5 := Aside0.mk A50
  clear A50
  by_cases c6 : t155.size + t154.size ≤ 9223372036854775807
  ·rw [if_pos c6] at H
   have c6b0 := eq_true c6
   have c6b1 : decide (t155.size + t154.size ≤ 9223372036854775807) = true := decide_eq_true c6
   try have c6b2 : (9223372036854775807 < t155.size + t154.size) = False := eq_false (Nat.not_lt.2 c6)
   by_cases c7 : a1 = 0
   ·rw [if_pos c7] at H
    have c7b0 : (a1 == 0) = true := beq_iff_eq.mpr c7
    have c7b1 : (a1 != 0) = false := bne_eq_false_iff_eq.mpr c7
    clear c7
    obtain rfl := Option.some.inj H
    go_enter Tryz.func34, Tryz.ntmps34
    go_wp2_with (first | ((with_reducible refine gate_dst (N := 2) rfl ?_); refine box_event ?hg (N := 2) ?hd (cs := #[.int .i64 a0_0, .int .i64 a0_1]) (t := 23) ?hr ?_; (case hd => rfl); (case hg => rfl); (case hr => first | (go_simp; done) | (go_simp; rfl)); intro gb153 hg w8 hbox hb; have BK153 := Aside0.mk (hbox); have GW153 := Aside0.mk (bs HB hg : w.heap.size ≤ gb153); replace HB := Aside0.mk (below_step (bw HB) hb); clear hb hbox hg; obtain ⟨hcz9_0, hcz9_1, hfz9_0, hfz9_1⟩ := cf2 BK153) | (go_at_call 37; (with_reducible refine (texts_scaled.calls a0_0 a0_1 a1 t154 _ (env_at HE_.out (bw HB)) A3.out).mono ?_); rintro e w10 ⟨rfl, hb⟩; replace BK153 := Aside0.mk (bb BK153 hb); replace HB := Aside0.mk (below_step (bw HB) hb); (try clear hb); (try clear hb2); (try clear hk); (try clear hi)) | (go_at_call 36; (with_reducible refine (strings_Repeat.calls (⟨#[48]⟩ : ByteArray) (wrap64 ((wrap64 (a1 + 1)) - (t154.size : Int))) t155 _ A5.out).mono ?_); rintro e w11 ⟨rfl, hb⟩; replace BK153 := Aside0.mk (bb BK153 hb); replace HB := Aside0.mk (below_step (bw HB) hb); (try clear hb); (try clear hb2); (try clear hk); (try clear hi)))
    repeat (go_quiet (first | ((with_reducible refine gate_dst (N := 2) rfl ?_); refine box_event ?hg (N := 2) ?hd (cs := #[.int .i64 a0_0, .int .i64 a0_1]) (t := 23) ?hr ?_; (case hd => rfl); (case hg => rfl); (case hr => first | (go_simp; done) | (go_simp; rfl)); intro gb153 hg w8 hbox hb; have BK153 := Aside0.mk (hbox); have GW153 := Aside0.mk (bs HB hg : w.heap.size ≤ gb153); replace HB := Aside0.mk (below_step (bw HB) hb); clear hb hbox hg; obtain ⟨hcz9_0, hcz9_1, hfz9_0, hfz9_1⟩ := cf2 BK153) | (go_at_call 37; (with_reducible refine (texts_scaled.calls a0_0 a0_1 a1 t154 _ (env_at HE_.out (bw HB)) A3.out).mono ?_); rintro e w10 ⟨rfl, hb⟩; replace BK153 := Aside0.mk (bb BK153 hb); replace HB := Aside0.mk (below_step (bw HB) hb); (try clear hb); (try clear hb2); (try clear hk); (try clear hi)) | (go_at_call 36; (with_reducible refine (strings_Repeat.calls (⟨#[48]⟩ : ByteArray) (wrap64 ((wrap64 (a1 + 1)) - (t154.size : Int))) t155 _ A5.out).mono ?_); rintro e w11 ⟨rfl, hb⟩; replace BK153 := Aside0.mk (bb BK153 hb); replace HB := Aside0.mk (below_step (bw HB) hb); (try clear hb); (try clear hb2); (try clear hk); (try clear hi))); try go_wp2_with (first | ((with_reducible refine gate_dst (N := 2) rfl ?_); refine box_event ?hg (N := 2) ?hd (cs := #[.int .i64 a0_0, .int .i64 a0_1]) (t := 23) ?hr ?_; (case hd => rfl); (case hg => rfl); (case hr => first | (go_simp; done) | (go_simp; rfl)); intro gb153 hg w8 hbox hb; have BK153 := Aside0.mk (hbox); have GW153 := Aside0.mk (bs HB hg : w.heap.size ≤ gb153); replace HB := Aside0.mk (below_step (bw HB) hb); clear hb hbox hg; obtain ⟨hcz9_0, hcz9_1, hfz9_0, hfz9_1⟩ := cf2 BK153) | (go_at_call 37; (with_reducible refine (texts_scaled.calls a0_0 a0_1 a1 t154 _ (env_at HE_.out (bw HB)) A3.out).mono ?_); rintro e w10 ⟨rfl, hb⟩; replace BK153 := Aside0.mk (bb BK153 hb); replace HB := Aside0.mk (below_step (bw HB) hb); (try clear hb); (try clear hb2); (try clear hk); (try clear hi)) | (go_at_call 36; (with_reducible refine (strings_Repeat.calls (⟨#[48]⟩ : ByteArray) (wrap64 ((wrap64 (a1 + 1)) - (t154.size : Int))) t155 _ A5.out).mono ?_); rintro e w11 ⟨rfl, hb⟩; replace BK153 := Aside0.mk (bb BK153 hb); replace HB := Aside0.mk (below_step (bw HB) hb); (try clear hb); (try clear hb2); (try clear hk); (try clear hi))))
    go_ret
    exact ⟨by first | rfl | (simp [errW_none, errW_some] <;> rfl) | (simp [*, errW_none, errW_some] <;> rfl), bw HB⟩
   ·rw [if_neg c7] at H
    have c7b0 : (a1 == 0) = false := beq_eq_false_iff_ne.mpr c7
    have c7b1 : (a1 != 0) = true := bne_iff_ne.mpr c7
    obtain ⟨XA_, hXA_⟩ : ∃ X : ByteArray, (t155 ++ t154) = X := ⟨_, rfl⟩
    rw [hXA_] at H
    obtain ⟨ji12, hji12⟩ : ∃ j_ : Int, (wrap64 ((XA_.size : Int) - a1)) = j_ := ⟨_, rfl⟩
    replace H : (if 0 ≤ (ji12) then (if (ji12) ≤ (XA_.size : Int) then (if (XA_.extract 0 ((ji12) : Int).toNat).size + 1 ≤ 9223372036854775807 then (if ((XA_.extract 0 ((ji12) : Int).toNat) ++ (⟨#[46]⟩ : ByteArray)).size + (XA_.extract ((ji12) : Int).toNat XA_.size).size ≤ 9223372036854775807 then (some (((XA_.extract 0 ((ji12) : Int).toNat) ++ (⟨#[46]⟩ : ByteArray)) ++ (XA_.extract ((ji12) : Int).toNat XA_.size))) else (none)) else (none)) else (none)) else (none)) = some r := by first | (rw [hji12] at H; exact H) | (simp only [hji12] at H ⊢; exact H)
    (try rw [hji12] at A3)
    (try rw [hji12] at A5)
    have hji12w : (IntKind.i64.wrap ((XA_.size : Int) - a1)) = ji12 := (i64_w _).trans hji12
    obtain ⟨XK_, hXK_⟩ : ∃ X : ByteArray, (XA_.extract 0 ((ji12) : Int).toNat) = X := ⟨_, rfl⟩
    obtain ⟨XR_, hXR_⟩ : ∃ X : ByteArray, (XA_.extract ((ji12) : Int).toNat XA_.size) = X := ⟨_, rfl⟩
    rw [hXR_, hXK_] at H
    by_cases c13 : 0 ≤ (ji12)
    ·rw [if_pos c13] at H
     have c13b0 := eq_true c13
     have c13b1 : decide (0 ≤ (ji12)) = true := decide_eq_true c13
     clear c13
     by_cases c14 : (ji12) ≤ (XA_.size : Int)
     ·rw [if_pos c14] at H
      have c14b0 := eq_true c14
      have c14b1 : decide ((ji12) ≤ (XA_.size : Int)) = true := decide_eq_true c14
      by_cases c15 : XK_.size + 1 ≤ 9223372036854775807
      ·rw [if_pos c15] at H
       have c15b0 := eq_true c15
       have c15b1 : decide (XK_.size + 1 ≤ 9223372036854775807) = true := decide_eq_true c15
       try have c15b2 : (9223372036854775807 < XK_.size + 1) = False := eq_false (Nat.not_lt.2 c15)
       have c16b0 := eq_true (of_decide_eq_true (by first | (with_reducible assumption) | assumption) : 0 ≤ (ji12))
       have c17b0 := eq_true (of_decide_eq_true (by first | (with_reducible assumption) | assumption) : (ji12) ≤ (XA_.size : Int))
       by_cases c18 : (XK_ ++ (⟨#[46]⟩ : ByteArray)).size + XR_.size ≤ 9223372036854775807
       ·rw [if_pos c18] at H
        have c18b0 := eq_true c18
        have c18b1 : decide ((XK_ ++ (⟨#[46]⟩ : ByteArray)).size + XR_.size ≤ 9223372036854775807) = true := decide_eq_true c18
        try have c18b2 : (9223372036854775807 < (XK_ ++ (⟨#[46]⟩ : ByteArray)).size + XR_.size) = False := eq_false (Nat.not_lt.2 c18)
        obtain rfl := Option.some.inj H
        go_enter Tryz.func34, Tryz.ntmps34
        go_wp2_with (first | ((with_reducible refine gate_dst (N := 2) rfl ?_); refine box_event ?hg (N := 2) ?hd (cs := #[.int .i64 a0_0, .int .i64 a0_1]) (t := 23) ?hr ?_; (case hd => rfl); (case hg => rfl); (case hr => first | (go_simp; done) | (go_simp; rfl)); intro gb153 hg w19 hbox hb; have BK153 := Aside0.mk (hbox); have GW153 := Aside0.mk (bs HB hg : w.heap.size ≤ gb153); replace HB := Aside0.mk (below_step (bw HB) hb); clear hb hbox hg; obtain ⟨hcz20_0, hcz20_1, hfz20_0, hfz20_1⟩ := cf2 BK153) | (go_at_call 37; (with_reducible refine (texts_scaled.calls a0_0 a0_1 a1 t154 _ (env_at HE_.out (bw HB)) A3.out).mono ?_); rintro e w21 ⟨rfl, hb⟩; replace BK153 := Aside0.mk (bb BK153 hb); replace HB := Aside0.mk (below_step (bw HB) hb); (try clear hb); (try clear hb2); (try clear hk); (try clear hi)) | (go_at_call 36; (with_reducible refine (strings_Repeat.calls (⟨#[48]⟩ : ByteArray) (wrap64 ((wrap64 (a1 + 1)) - (t154.size : Int))) t155 _ A5.out).mono ?_); rintro e w22 ⟨rfl, hb⟩; replace BK153 := Aside0.mk (bb BK153 hb); replace HB := Aside0.mk (below_step (bw HB) hb); (try clear hb); (try clear hb2); (try clear hk); (try clear hi)))
        repeat (go_quiet (first | ((with_reducible refine gate_dst (N := 2) rfl ?_); refine box_event ?hg (N := 2) ?hd (cs := #[.int .i64 a0_0, .int .i64 a0_1]) (t := 23) ?hr ?_; (case hd => rfl); (case hg => rfl); (case hr => first | (go_simp; done) | (go_simp; rfl)); intro gb153 hg w19 hbox hb; have BK153 := Aside0.mk (hbox); have GW153 := Aside0.mk (bs HB hg : w.heap.size ≤ gb153); replace HB := Aside0.mk (below_step (bw HB) hb); clear hb hbox hg; obtain ⟨hcz20_0, hcz20_1, hfz20_0, hfz20_1⟩ := cf2 BK153) | (go_at_call 37; (with_reducible refine (texts_scaled.calls a0_0 a0_1 a1 t154 _ (env_at HE_.out (bw HB)) A3.out).mono ?_); rintro e w21 ⟨rfl, hb⟩; replace BK153 := Aside0.mk (bb BK153 hb); replace HB := Aside0.mk (below_step (bw HB) hb); (try clear hb); (try clear hb2); (try clear hk); (try clear hi)) | (go_at_call 36; (with_reducible refine (strings_Repeat.calls (⟨#[48]⟩ : ByteArray) (wrap64 ((wrap64 (a1 + 1)) - (t154.size : Int))) t155 _ A5.out).mono ?_); rintro e w22 ⟨rfl, hb⟩; replace BK153 := Aside0.mk (bb BK153 hb); replace HB := Aside0.mk (below_step (bw HB) hb); (try clear hb); (try clear hb2); (try clear hk); (try clear hi))); try go_wp2_with (first | ((with_reducible refine gate_dst (N := 2) rfl ?_); refine box_event ?hg (N := 2) ?hd (cs := #[.int .i64 a0_0, .int .i64 a0_1]) (t := 23) ?hr ?_; (case hd => rfl); (case hg => rfl); (case hr => first | (go_simp; done) | (go_simp; rfl)); intro gb153 hg w19 hbox hb; have BK153 := Aside0.mk (hbox); have GW153 := Aside0.mk (bs HB hg : w.heap.size ≤ gb153); replace HB := Aside0.mk (below_step (bw HB) hb); clear hb hbox hg; obtain ⟨hcz20_0, hcz20_1, hfz20_0, hfz20_1⟩ := cf2 BK153) | (go_at_call 37; (with_reducible refine (texts_scaled.calls a0_0 a0_1 a1 t154 _ (env_at HE_.out (bw HB)) A3.out).mono ?_); rintro e w21 ⟨rfl, hb⟩; replace BK153 := Aside0.mk (bb BK153 hb); replace HB := Aside0.mk (below_step (bw HB) hb); (try clear hb); (try clear hb2); (try clear hk); (try clear hi)) | (go_at_call 36; (with_reducible refine (strings_Repeat.calls (⟨#[48]⟩ : ByteArray) (wrap64 ((wrap64 (a1 + 1)) - (t154.size : Int))) t155 _ A5.out).mono ?_); rintro e w22 ⟨rfl, hb⟩; replace BK153 := Aside0.mk (bb BK153 hb); replace HB := Aside0.mk (below_step (bw HB) hb); (try clear hb); (try clear hb2); (try clear hk); (try clear hi))))
        go_ret
        exact ⟨by first | rfl | (simp [errW_none, errW_some] <;> rfl) | (simp only [← hji12]; first | rfl | (simp [errW_none, errW_some] <;> rfl)) | (simp [*, errW_none, errW_some] <;> rfl), bw HB⟩
       ·rw [if_neg c18] at H
        exact absurd H (by simp)
      ·rw [if_neg c15] at H
       exact absurd H (by simp)
     ·rw [if_neg c14] at H
      exact absurd H (by simp)
    ·rw [if_neg c13] at H
     exact absurd H (by simp)
  ·rw [if_neg c6] at H
   exact absurd H (by simp)
 ·rw [if_neg c4] at H
  have c4b0 : decide ((t154.size : Int) ≤ a1) = false := decide_eq_false c4
  clear c4
  by_cases c23 : a1 = 0
  ·rw [if_pos c23] at H
   have c23b0 : (a1 == 0) = true := beq_iff_eq.mpr c23
   have c23b1 : (a1 != 0) = false := bne_eq_false_iff_eq.mpr c23
   clear c23
   obtain rfl := Option.some.inj H
   go_enter Tryz.func34, Tryz.ntmps34
   go_wp2_with (first | ((with_reducible refine gate_dst (N := 2) rfl ?_); refine box_event ?hg (N := 2) ?hd (cs := #[.int .i64 a0_0, .int .i64 a0_1]) (t := 23) ?hr ?_; (case hd => rfl); (case hg => rfl); (case hr => first | (go_simp; done) | (go_simp; rfl)); intro gb153 hg w24 hbox hb; have BK153 := Aside0.mk (hbox); have GW153 := Aside0.mk (bs HB hg : w.heap.size ≤ gb153); replace HB := Aside0.mk (below_step (bw HB) hb); clear hb hbox hg; obtain ⟨hcz25_0, hcz25_1, hfz25_0, hfz25_1⟩ := cf2 BK153) | (go_at_call 37; (with_reducible refine (texts_scaled.calls a0_0 a0_1 a1 t154 _ (env_at HE_.out (bw HB)) A3.out).mono ?_); rintro e w26 ⟨rfl, hb⟩; replace BK153 := Aside0.mk (bb BK153 hb); replace HB := Aside0.mk (below_step (bw HB) hb); (try clear hb); (try clear hb2); (try clear hk); (try clear hi)))
   repeat (go_quiet (first | ((with_reducible refine gate_dst (N := 2) rfl ?_); refine box_event ?hg (N := 2) ?hd (cs := #[.int .i64 a0_0, .int .i64 a0_1]) (t := 23) ?hr ?_; (case hd => rfl); (case hg => rfl); (case hr => first | (go_simp; done) | (go_simp; rfl)); intro gb153 hg w24 hbox hb; have BK153 := Aside0.mk (hbox); have GW153 := Aside0.mk (bs HB hg : w.heap.size ≤ gb153); replace HB := Aside0.mk (below_step (bw HB) hb); clear hb hbox hg; obtain ⟨hcz25_0, hcz25_1, hfz25_0, hfz25_1⟩ := cf2 BK153) | (go_at_call 37; (with_reducible refine (texts_scaled.calls a0_0 a0_1 a1 t154 _ (env_at HE_.out (bw HB)) A3.out).mono ?_); rintro e w26 ⟨rfl, hb⟩; replace BK153 := Aside0.mk (bb BK153 hb); replace HB := Aside0.mk (below_step (bw HB) hb); (try clear hb); (try clear hb2); (try clear hk); (try clear hi))); try go_wp2_with (first | ((with_reducible refine gate_dst (N := 2) rfl ?_); refine box_event ?hg (N := 2) ?hd (cs := #[.int .i64 a0_0, .int .i64 a0_1]) (t := 23) ?hr ?_; (case hd => rfl); (case hg => rfl); (case hr => first | (go_simp; done) | (go_simp; rfl)); intro gb153 hg w24 hbox hb; have BK153 := Aside0.mk (hbox); have GW153 := Aside0.mk (bs HB hg : w.heap.size ≤ gb153); replace HB := Aside0.mk (below_step (bw HB) hb); clear hb hbox hg; obtain ⟨hcz25_0, hcz25_1, hfz25_0, hfz25_1⟩ := cf2 BK153) | (go_at_call 37; (with_reducible refine (texts_scaled.calls a0_0 a0_1 a1 t154 _ (env_at HE_.out (bw HB)) A3.out).mono ?_); rintro e w26 ⟨rfl, hb⟩; replace BK153 := Aside0.mk (bb BK153 hb); replace HB := Aside0.mk (below_step (bw HB) hb); (try clear hb); (try clear hb2); (try clear hk); (try clear hi))))
   go_ret
   exact ⟨by first | rfl | (simp [errW_none, errW_some] <;> rfl) | (simp [*, errW_none, errW_some] <;> rfl), bw HB⟩
  ·rw [if_neg c23] at H
   have c23b0 : (a1 == 0) = false := beq_eq_false_iff_ne.mpr c23
   have c23b1 : (a1 != 0) = true := bne_iff_ne.mpr c23
   obtain ⟨ji27, hji27⟩ : ∃ j_ : Int, (wrap64 ((t154.size : Int) - a1)) = j_ := ⟨_, rfl⟩
   replace H : (if 0 ≤ (ji27) then (if (ji27) ≤ (t154.size : Int) then (if (t154.extract 0 ((ji27) : Int).toNat).size + 1 ≤ 9223372036854775807 then (if ((t154.extract 0 ((ji27) : Int).toNat) ++ (⟨#[46]⟩ : ByteArray)).size + (t154.extract ((ji27) : Int).toNat t154.size).size ≤ 9223372036854775807 then (some (((t154.extract 0 ((ji27) : Int).toNat) ++ (⟨#[46]⟩ : ByteArray)) ++ (t154.extract ((ji27) : Int).toNat t154.size))) else (none)) else (none)) else (none)) else (none)) = some r := by first | (rw [hji27] at H; exact H) | (simp only [hji27] at H ⊢; exact H)
   (try rw [hji27] at A3)
   have hji27w : (IntKind.i64.wrap ((t154.size : Int) - a1)) = ji27 := (i64_w _).trans hji27
   obtain ⟨XK_, hXK_⟩ : ∃ X : ByteArray, (t154.extract 0 ((ji27) : Int).toNat) = X := ⟨_, rfl⟩
   obtain ⟨XR_, hXR_⟩ : ∃ X : ByteArray, (t154.extract ((ji27) : Int).toNat t154.size) = X := ⟨_, rfl⟩
   rw [hXR_, hXK_] at H
   by_cases c28 : 0 ≤ (ji27)
   ·rw [if_pos c28] at H
    have c28b0 := eq_true c28
    have c28b1 : decide (0 ≤ (ji27)) = true := decide_eq_true c28
    clear c28
    by_cases c29 : (ji27) ≤ (t154.size : Int)
    ·rw [if_pos c29] at H
     have c29b0 := eq_true c29
     have c29b1 : decide ((ji27) ≤ (t154.size : Int)) = true := decide_eq_true c29
     clear c29
     by_cases c30 : XK_.size + 1 ≤ 9223372036854775807
     ·rw [if_pos c30] at H
      have c30b0 := eq_true c30
      have c30b1 : decide (XK_.size + 1 ≤ 9223372036854775807) = true := decide_eq_true c30
      try have c30b2 : (9223372036854775807 < XK_.size + 1) = False := eq_false (Nat.not_lt.2 c30)
      have c31b0 := eq_true (of_decide_eq_true (by first | (with_reducible assumption) | assumption) : 0 ≤ (ji27))
      have c32b0 := eq_true (of_decide_eq_true (by first | (with_reducible assumption) | assumption) : (ji27) ≤ (t154.size : Int))
      by_cases c33 : (XK_ ++ (⟨#[46]⟩ : ByteArray)).size + XR_.size ≤ 9223372036854775807
      ·rw [if_pos c33] at H
       have c33b0 := eq_true c33
       have c33b1 : decide ((XK_ ++ (⟨#[46]⟩ : ByteArray)).size + XR_.size ≤ 9223372036854775807) = true := decide_eq_true c33
       try have c33b2 : (9223372036854775807 < (XK_ ++ (⟨#[46]⟩ : ByteArray)).size + XR_.size) = False := eq_false (Nat.not_lt.2 c33)
       obtain rfl := Option.some.inj H
       go_enter Tryz.func34, Tryz.ntmps34
       go_wp2_with (first | ((with_reducible refine gate_dst (N := 2) rfl ?_); refine box_event ?hg (N := 2) ?hd (cs := #[.int .i64 a0_0, .int .i64 a0_1]) (t := 23) ?hr ?_; (case hd => rfl); (case hg => rfl); (case hr => first | (go_simp; done) | (go_simp; rfl)); intro gb153 hg w34 hbox hb; have BK153 := Aside0.mk (hbox); have GW153 := Aside0.mk (bs HB hg : w.heap.size ≤ gb153); replace HB := Aside0.mk (below_step (bw HB) hb); clear hb hbox hg; obtain ⟨hcz35_0, hcz35_1, hfz35_0, hfz35_1⟩ := cf2 BK153) | (go_at_call 37; (with_reducible refine (texts_scaled.calls a0_0 a0_1 a1 t154 _ (env_at HE_.out (bw HB)) A3.out).mono ?_); rintro e w36 ⟨rfl, hb⟩; replace BK153 := Aside0.mk (bb BK153 hb); replace HB := Aside0.mk (below_step (bw HB) hb); (try clear hb); (try clear hb2); (try clear hk); (try clear hi)))
       repeat (go_quiet (first | ((with_reducible refine gate_dst (N := 2) rfl ?_); refine box_event ?hg (N := 2) ?hd (cs := #[.int .i64 a0_0, .int .i64 a0_1]) (t := 23) ?hr ?_; (case hd => rfl); (case hg => rfl); (case hr => first | (go_simp; done) | (go_simp; rfl)); intro gb153 hg w34 hbox hb; have BK153 := Aside0.mk (hbox); have GW153 := Aside0.mk (bs HB hg : w.heap.size ≤ gb153); replace HB := Aside0.mk (below_step (bw HB) hb); clear hb hbox hg; obtain ⟨hcz35_0, hcz35_1, hfz35_0, hfz35_1⟩ := cf2 BK153) | (go_at_call 37; (with_reducible refine (texts_scaled.calls a0_0 a0_1 a1 t154 _ (env_at HE_.out (bw HB)) A3.out).mono ?_); rintro e w36 ⟨rfl, hb⟩; replace BK153 := Aside0.mk (bb BK153 hb); replace HB := Aside0.mk (below_step (bw HB) hb); (try clear hb); (try clear hb2); (try clear hk); (try clear hi))); try go_wp2_with (first | ((with_reducible refine gate_dst (N := 2) rfl ?_); refine box_event ?hg (N := 2) ?hd (cs := #[.int .i64 a0_0, .int .i64 a0_1]) (t := 23) ?hr ?_; (case hd => rfl); (case hg => rfl); (case hr => first | (go_simp; done) | (go_simp; rfl)); intro gb153 hg w34 hbox hb; have BK153 := Aside0.mk (hbox); have GW153 := Aside0.mk (bs HB hg : w.heap.size ≤ gb153); replace HB := Aside0.mk (below_step (bw HB) hb); clear hb hbox hg; obtain ⟨hcz35_0, hcz35_1, hfz35_0, hfz35_1⟩ := cf2 BK153) | (go_at_call 37; (with_reducible refine (texts_scaled.calls a0_0 a0_1 a1 t154 _ (env_at HE_.out (bw HB)) A3.out).mono ?_); rintro e w36 ⟨rfl, hb⟩; replace BK153 := Aside0.mk (bb BK153 hb); replace HB := Aside0.mk (below_step (bw HB) hb); (try clear hb); (try clear hb2); (try clear hk); (try clear hi))))
       go_ret
       exact ⟨by first | rfl | (simp [errW_none, errW_some] <;> rfl) | (simp only [← hji27]; first | rfl | (simp [errW_none, errW_some] <;> rfl)) | (simp [*, errW_none, errW_some] <;> rfl), bw HB⟩
      ·rw [if_neg c33] at H
       exact absurd H (by simp)
     ·rw [if_neg c30] at H
      exact absurd H (by simp)
    ·rw [if_neg c29] at H
     exact absurd H (by simp)
   ·rw [if_neg c28] at H
    exact absurd H (by simp)
end Go.Proofs.YtckbmniiecbalaaGreatDoor.PT
