-- written by a program of this session out of the kit's print (its words and its form)
import Derived.Test.YtamkjpjibkabaaaPRgRa
import Derived.Test.YtamkjpjibkabaaaPRgRd
import Derived.Test.YtamkjpjibkabaaaPRgRl
import Derived.Test.YtamkjpjibkabaaaPRsq
import Derived.Test.YtamkjpjibkabaaaPRx0
namespace Go.Proofs.Ytamkjpjibkabaaa.PR
open Go.RowKit Go.Proofs.YtamkjpjibkabaaaW.PrintWords Go.Proofs.YtamkjpjibkabaaaW.PrintLast Go.Proofs.YtamkjpjibkabaaaW.PrintMore
attribute [local go_sem] max2_int min2_int max_two min_two max_three min_three max_four min_four   -- for this text's walks alone
set_option linter.unusedVariables false
set_option linter.unusedSimpArgs false

/-! ### environref02_larger: function 75 -/
def environref02_larger.f : Nat → Int → Int → Int → Int → Option (Int)
 | 0, _, _, _, _ => none
 | k + 1, a0_0, a0_1, a1_0, a1_1 => if a0_1 < a1_1 then ((environref02_larger.f k a1_0 a1_1 a0_0 a0_1).bind fun t846 => (some (wrap64 (-t846)))) else (if (IntKind.u64.wrap ((IntKind.u64.wrap (a0_1)) - (IntKind.u64.wrap (a1_1)))) ≤ 40 then ((environref02_Of.f k a0_0).bind fun t847 => ((environref02_shift.f t847 (wrap64 (IntKind.u64.wrap ((IntKind.u64.wrap (a0_1)) - (IntKind.u64.wrap (a1_1)))))).bind fun t850 => ((environref02_Of.f k a1_0).bind fun t853 => ((environref02_compare.f k t850 t853).bind fun t856 => (some t856))))) else (some 1))
theorem environref02_larger.mono_l : ∀ k, (∀ y0 y1 y2 y3, LeO (environref02_larger.f k y0 y1 y2 y3) (environref02_larger.f (k + 1) y0 y1 y2 y3))
 | 0 => fun _ _ _ _ r h => by simp [environref02_larger.f] at h
 | k + 1 => by
  have ih0 := environref02_larger.mono_l k
  ·intro y0 y1 y2 y3
   unfold environref02_larger.f
   repeat' first
   | (with_reducible exact ih0 _ _ _ _)
   | (with_reducible exact environref02_Of.mono _ _)
   | (with_reducible exact environref02_compare.mono _ _ _)
   | (with_reducible exact LeO.refl _)
   | (with_reducible exact LeO.none _)
   | (with_reducible refine LeO.ite ?_ ?_)
   | (with_reducible refine LeO.bind ?_ (fun _ => ?_))
   | exact ih0 _ _ _ _
   | exact environref02_Of.mono _ _
   | exact environref02_compare.mono _ _ _
   | exact LeO.none _
   | refine LeO.ite ?_ ?_
   | refine LeO.bind ?_ (fun _ => ?_)
theorem environref02_larger.mono : ∀ a0 a1 a2 a3 k, LeO (environref02_larger.f k a0 a1 a2 a3) (environref02_larger.f (k + 1) a0 a1 a2 a3) := by
 intro a0 a1 a2 a3 k
 have ih0 := environref02_larger.mono_l k
 exact ih0 a0 a1 a2 a3
def environref02_larger.T5 : Bool × List (List Nat × List Nat) := (true, [([], []), ([0], [0]), ([1], [1]), ([], []), ([3], [3]), ([2, 4, 2], [2, 4]), ([], []), ([6], [6]), ([7, 5], [7]), ([5, 8, 8], [5, 8]), ([9, 9, 0, 1, 2, 3, 4, 5, 6, 7, 8, 9], [9])])
def environref02_larger.B5 : List Nat := [0, 1, 3, 0, 8, 31, 0, 64, 255, 511, 1023]
theorem environref02_larger.tab5 : rtab .any (opsOf Try.f75 5) = environref02_larger.T5 := by kernel_rfl
theorem environref02_larger.bits5 : waitsOk environref02_larger.T5.2 environref02_larger.B5 = true := by kernel_rfl
set_option maxHeartbeats 8000000 in
set_option maxRecDepth 100000 in
theorem environref02_larger.calls (k : Nat) : ∀ (a0_0 : Int) (a0_1 : Int) (a1_0 : Int) (a1_1 : Int) (r : Int) (w : World) (h : environref02_larger.f k a0_0 a0_1 a1_0 a1_1 = some r),
  Calls Try.prog 75 #[.agg #[.int .i64 a0_0, .int .i64 a0_1], .agg #[.int .i64 a1_0, .int .i64 a1_1]] w fun e w' => e = .returned (.int .i64 r) ∧ Below w.heap.size w w' := by
 induction k using Nat.strongRecOn with
 | _ k ih =>
 intro a0_0 a0_1 a1_0 a1_1 r w h
 cases k with
 | zero => exact absurd h (by simp [environref02_larger.f])
 | succ k =>
 simp only [environref02_larger.f] at h
 have hu29 := Try.underlying29
 have HB := Aside0.mk (Below.refl w.heap.size w)
 have H : (if a0_1 < a1_1 then ((environref02_larger.f k a1_0 a1_1 a0_0 a0_1).bind fun t846 => (some (wrap64 (-t846)))) else (if (IntKind.u64.wrap ((IntKind.u64.wrap (a0_1)) - (IntKind.u64.wrap (a1_1)))) ≤ 40 then ((environref02_Of.f k a0_0).bind fun t847 => ((environref02_shift.f t847 (wrap64 (IntKind.u64.wrap ((IntKind.u64.wrap (a0_1)) - (IntKind.u64.wrap (a1_1)))))).bind fun t850 => ((environref02_Of.f k a1_0).bind fun t853 => ((environref02_compare.f k t850 t853).bind fun t856 => (some t856))))) else (some 1))) = some r := h
 clear h
 by_cases c3 : a0_1 < a1_1
 ·rw [if_pos c3] at H
  have c3b0 : decide (a0_1 < a1_1) = true := decide_eq_true c3
  clear c3
  replace H := Option.bind_eq_some_iff.mp H
  obtain ⟨t846, A40, H⟩ := H
  replace H : (some (wrap64 (-t846))) = some r := H
  have A4 := Aside0.mk A40
  clear A40
  obtain rfl := Option.some.inj H
  go_enter Try.func75, Try.ntmps75
  go_wp2_with (first | ((with_reducible refine gate_dst (N := 2) rfl ?_); refine box_event ?hg (N := 2) ?hd (cs := #[.int .i64 a0_0, .int .i64 a0_1]) (t := 29) ?hr ?_; (case hd => rfl); (case hg => rfl); (case hr => first | (go_simp; done) | (go_simp; rfl)); intro gb844 hg w5 hbox hb; have BK844 := Aside0.mk (hbox); have GW844 := Aside0.mk (bs HB hg : w.heap.size ≤ gb844); replace HB := Aside0.mk (below_step (bw HB) hb); clear hb hbox hg) | ((with_reducible refine gate_dst (N := 3) rfl ?_); refine box_event ?hg (N := 3) ?hd (cs := #[.int .i64 a1_0, .int .i64 a1_1]) (t := 29) ?hr ?_; (case hd => rfl); (case hg => rfl); (case hr => first | (go_simp; done) | (go_simp; rfl)); intro gb845 hg w6 hbox hb; have BK845 := Aside0.mk (hbox); have GW845 := Aside0.mk (bs HB hg : w.heap.size ≤ gb845); replace HB := Aside0.mk (below_step (bw HB) hb); have NB844_845 := Aside0.mk (nl BK844 hg); have NB845_844 := Aside0.mk (ng BK844 hg); replace BK844 := Aside0.mk (bb BK844 hb); clear hb hbox hg; have hnb7 := NB844_845.out; have hnc7 := NB845_844.out; obtain ⟨hcz8_0, hcz8_1, hfz8_0, hfz8_1⟩ := cf2 BK844; obtain ⟨hcz9_0, hcz9_1, hfz9_0, hfz9_1⟩ := cf2 BK845) | ((with_reducible refine gate_callee (f := 75) rfl ?_); refine goesL_ (some 13) rfl rfl Try.func75 (by kernel_rfl) rfl #[.agg #[.int .i64 a1_0, .int .i64 a1_1], .agg #[.int .i64 a0_0, .int .i64 a0_1]] rfl (by (try simp only [List.map_toArray, List.map_cons, List.map_nil]); first | done | rfl | (simp only [List.length_drop, List.length_take]; rfl)) ?_; (with_reducible refine (ih k (by omega) a1_0 a1_1 a0_0 a0_1 t846 _ A4.out).mono ?_); rintro e w10 ⟨rfl, hb⟩; refine ⟨_, rfl, ?_⟩; replace BK844 := Aside0.mk (bb BK844 hb); replace BK845 := Aside0.mk (bb BK845 hb); replace HB := Aside0.mk (below_step (bw HB) hb); (try clear hb); (try clear hb2); (try clear hk); (try clear hi)))
  go_ret
  exact ⟨by first | rfl | (simp [errW_none, errW_some] <;> rfl) | (simp [*, errW_none, errW_some] <;> rfl), bw HB⟩
 ·rw [if_neg c3] at H
  have c3b0 : decide (a0_1 < a1_1) = false := decide_eq_false c3
  clear c3
  by_cases c11 : (IntKind.u64.wrap ((IntKind.u64.wrap (a0_1)) - (IntKind.u64.wrap (a1_1)))) ≤ 40
  ·rw [if_pos c11] at H
   have c11b0 : decide ((IntKind.u64.wrap ((IntKind.u64.wrap (a0_1)) - (IntKind.u64.wrap (a1_1)))) ≤ 40) = true := decide_eq_true c11
   clear c11
   replace H := Option.bind_eq_some_iff.mp H
   obtain ⟨t847, A120, H⟩ := H
   replace H : ((environref02_shift.f t847 (wrap64 (IntKind.u64.wrap ((IntKind.u64.wrap (a0_1)) - (IntKind.u64.wrap (a1_1)))))).bind fun t850 => ((environref02_Of.f k a1_0).bind fun t853 => ((environref02_compare.f k t850 t853).bind fun t856 => (some t856)))) = some r := H
   have A12 := Aside0.mk A120
   clear A120
   replace H := Option.bind_eq_some_iff.mp H
   obtain ⟨t850, A130, H⟩ := H
   replace H : ((environref02_Of.f k a1_0).bind fun t853 => ((environref02_compare.f k t850 t853).bind fun t856 => (some t856))) = some r := H
   have A13 := Aside0.mk A130
   clear A130
   replace H := Option.bind_eq_some_iff.mp H
   obtain ⟨t853, A140, H⟩ := H
   replace H : ((environref02_compare.f k t850 t853).bind fun t856 => (some t856)) = some r := H
   have A14 := Aside0.mk A140
   clear A140
   replace H := Option.bind_eq_some_iff.mp H
   obtain ⟨t856, A150, H⟩ := H
   replace H : (some t856) = some r := H
   have A15 := Aside0.mk A150
   clear A150
   obtain rfl := Option.some.inj H
   go_enter Try.func75, Try.ntmps75
   try go_wp2_with (first | ((with_reducible refine gate_dst (N := 2) rfl ?_); refine box_event ?hg (N := 2) ?hd (cs := #[.int .i64 a0_0, .int .i64 a0_1]) (t := 29) ?hr ?_; (case hd => rfl); (case hg => rfl); (case hr => first | (go_simp; done) | (go_simp; rfl)); intro gb844 hg w16 hbox hb; have BK844 := Aside0.mk (hbox); have GW844 := Aside0.mk (bs HB hg : w.heap.size ≤ gb844); replace HB := Aside0.mk (below_step (bw HB) hb); clear hb hbox hg) | ((with_reducible refine gate_dst (N := 3) rfl ?_); refine box_event ?hg (N := 3) ?hd (cs := #[.int .i64 a1_0, .int .i64 a1_1]) (t := 29) ?hr ?_; (case hd => rfl); (case hg => rfl); (case hr => first | (go_simp; done) | (go_simp; rfl)); intro gb845 hg w17 hbox hb; have BK845 := Aside0.mk (hbox); have GW845 := Aside0.mk (bs HB hg : w.heap.size ≤ gb845); replace HB := Aside0.mk (below_step (bw HB) hb); have NB844_845 := Aside0.mk (nl BK844 hg); have NB845_844 := Aside0.mk (ng BK844 hg); replace BK844 := Aside0.mk (bb BK844 hb); clear hb hbox hg; have hnb18 := NB844_845.out; have hnc18 := NB845_844.out; obtain ⟨hcz19_0, hcz19_1, hfz19_0, hfz19_1⟩ := cf2 BK844; obtain ⟨hcz20_0, hcz20_1, hfz20_0, hfz20_1⟩ := cf2 BK845))
   replace BK844 := Aside0.mk (blk_drew BK844.out)
   replace BK845 := Aside0.mk (blk_drew BK845.out)
   replace HB := Aside0.mk (below_drew1 HB.out)
   refine start_ (n := 11) (S := fun w' => w'.cell? ⟨gb844, 0, none⟩ = some (.int .i64 a0_0) ∧ w'.cell? ⟨gb844, 1, none⟩ = some (.int .i64 a0_1) ∧ w'.cell? ⟨gb845, 0, none⟩ = some (.int .i64 a1_0) ∧ w'.cell? ⟨gb845, 1, none⟩ = some (.int .i64 a1_1)) (ds := []) #[false, false, false, false, false, false, false, false, false, false, false] (by kernel_rfl) rfl rfl ⟨(blk_cell BK844.out 0).trans rfl, (blk_cell BK844.out 1).trans rfl, (blk_cell BK845.out 0).trans rfl, (blk_cell BK845.out 1).trans rfl⟩ (fun hHeld => ?_); refine with_tabW environref02_larger.tab5 environref02_larger.bits5 (fun HT_ HW_ => ?_)
   generalize w17.drew = w21 at BK844 BK845 HB hHeld ⊢
   refine pure_ (i := 0) (N := some 24) (v := ?_) (a' := ?_) #[true, false, false, false, false, false, false, false, false, false, false] rfl rfl (any_of HT_.out (by kernel_rfl)) (fun _ _ _ h => h) (Or.inl ⟨by rfl, ?_⟩) ?_ ?_
   rotate_left
   ·intro w'
    go_simp
    with_reducible rfl
   rotate_left
   ·simp only [sx, i64_w, i32_w]
    rfl
   refine pure_ (i := 3) (N := some 27) (v := ?_) (a' := ?_) #[true, false, false, true, false, false, false, false, false, false, false] rfl rfl (any_of HT_.out (by kernel_rfl)) (fun _ _ _ h => h) (Or.inl ⟨by rfl, ?_⟩) ?_ ?_
   rotate_left
   ·intro w'
    go_simp
    with_reducible rfl
   rotate_left
   ·simp only [sx, i64_w, i32_w]
    rfl
   refine pure_ (i := 4) (N := some 28) (v := ?_) (a' := ?_) #[true, false, false, true, true, false, false, false, false, false, false] rfl rfl (any_of HT_.out (by kernel_rfl)) (fun _ _ _ h => h) (Or.inl ⟨by rfl, ?_⟩) ?_ ?_
   rotate_left
   ·intro w'
    go_simp
    with_reducible rfl
   rotate_left
   ·simp only [sx, i64_w, i32_w]
    rfl
   refine pure_ (i := 6) (N := some 30) (v := ?_) (a' := ?_) #[true, false, false, true, true, false, true, false, false, false, false] rfl rfl (any_of HT_.out (by kernel_rfl)) (fun _ _ _ h => h) (Or.inl ⟨by rfl, ?_⟩) ?_ ?_
   rotate_left
   ·intro w'
    go_simp
    with_reducible rfl
   rotate_left
   ·simp only [sx, i64_w, i32_w]
    rfl
   refine take_ (i := 1) (N := some 25) (v := ?_) (a' := ?_) #[true, true, false, true, true, false, true, false, false, false, false] rfl rfl (take_ofW HT_.out HW_.out (by kernel_rfl)) (fun _ _ _ h => h) (Or.inl ⟨by rfl, ?_⟩) hHeld ?_ ?_
   rotate_left
   ·rintro w' ⟨s0, s1, s2, s3⟩
    go_simp
    with_reducible rfl
   rotate_left
   ·simp only [sx, i64_w, i32_w]
    rfl
   refine take_ (i := 7) (N := some 31) (v := ?_) (a' := ?_) #[true, true, false, true, true, false, true, true, false, false, false] rfl rfl (take_ofW HT_.out HW_.out (by kernel_rfl)) (fun _ _ _ h => h) (Or.inl ⟨by rfl, ?_⟩) hHeld ?_ ?_
   rotate_left
   ·rintro w' ⟨s0, s1, s2, s3⟩
    go_simp
    with_reducible rfl
   rotate_left
   ·simp only [sx, i64_w, i32_w]
    rfl
   refine one_ (i := 2) (N := some 26) #[true, true, true, true, true, false, true, true, false, false, false] rfl rfl (one_of HT_.out (by kernel_rfl)) (by decide) (fun K hK => ?_)
   refine goes_ Try.func48 (by kernel_rfl) rfl #[.int .i64 a0_0] (by rfl) rfl rfl (by (try simp only [List.map_toArray, List.map_cons, List.map_nil]); first | done | rfl | (simp only [List.length_drop, List.length_take]; rfl)) ?_
   with_reducible refine (environref02_Of.calls k a0_0 t847 _ A12.out).mono ?_
   rintro e w22 ⟨v848, rfl, ho0, hb⟩
   refine ⟨_, rfl, ?_⟩
   have HO849 := Aside0.mk (Kd.R_lower ho0 (below_size (bw HB)))
   replace BK844 := Aside0.mk (bb BK844 hb)
   replace BK845 := Aside0.mk (bb BK845 hb)
   replace HB := Aside0.mk (below_step (bw HB) hb)
   (try clear hb)
   (try clear hb2)
   (try clear hk)
   (try clear hi)
   (try clear ho0)
   obtain ⟨Ao23, co23, eo23⟩ := Kd.R_slice HO849.out
   (first | subst eo23 | (injection eo23 with f1_ f2_ f3_; have f4_ := f1_.symm; have f5_ := f3_.symm; clear f1_ f2_ f3_; subst f4_; subst f5_))
   refine hK.out _ _ ⟨(blk_cell BK844.out 0).trans rfl, (blk_cell BK844.out 1).trans rfl, (blk_cell BK845.out 0).trans rfl, (blk_cell BK845.out 1).trans rfl⟩ (fun hHeld => ?_)
   clear hK K
   refine norm_ (a' := ?_) ?_ ?_
   rotate_left
   ·show Act.put _ (some 26) _ = _
    simp only [sx, i64_w, i32_w]
    rfl
   refine one_ (i := 5) (N := some 29) #[true, true, true, true, true, true, true, true, false, false, false] rfl rfl (one_of HT_.out (by kernel_rfl)) (by decide) (fun K hK => ?_)
   refine goes_ Try.func63 (by kernel_rfl) rfl #[.slice Ao23 t847.length co23, .int .i64 (wrap64 (IntKind.u64.wrap ((IntKind.u64.wrap (a0_1)) - (IntKind.u64.wrap (a1_1)))))] (by rfl) rfl rfl (by (try simp only [List.map_toArray, List.map_cons, List.map_nil]); first | done | rfl | (simp only [List.length_drop, List.length_take]; rfl)) ?_
   with_reducible refine (environref02_shift.calls (fun k_ => some k_ = (.slice Ao23 t847.length co23 : Value).ownBlock) (.slice Ao23 t847.length co23) t847 (wrap64 (IntKind.u64.wrap ((IntKind.u64.wrap (a0_1)) - (IntKind.u64.wrap (a1_1))))) t850 w _ ?side1 ?side2 A13.out).mono ?_
   (case side1 => repeat (first | (with_reducible first | exact HB.out | apply below_alloc | apply pw_below_drewN | apply below_drew1 | refine below_set ?_ GW844.out | refine below_set ?_ GW845.out) | exact HB.out))
   (case side2 => exact Kd.R_tight rfl HO849.out)
   rintro e w24 ⟨v851, rfl, ho0, hb, hkp⟩
   refine ⟨_, rfl, ?_⟩
   replace BK844 := Aside0.mk (blk_kept (bk BK844) hkp (fun hs_ => (fun e_ => (Kd.R_ne HO849.out BK844.out (by decide)) e_) hs_))
   replace BK845 := Aside0.mk (blk_kept (bk BK845) hkp (fun hs_ => (fun e_ => (Kd.R_ne HO849.out BK845.out (by decide)) e_) hs_))
   have HO852 := Aside0.mk (Kd.R_mono (ok' := fun k_ => True) ho0 (fun k_ hk_ => trivial))
   replace HB := Aside0.mk (hb)
   clear HO849
   (try clear hb)
   (try clear hkp)
   (try clear ho0)
   refine hK.out _ _ ⟨(blk_cell BK844.out 0).trans rfl, (blk_cell BK844.out 1).trans rfl, (blk_cell BK845.out 0).trans rfl, (blk_cell BK845.out 1).trans rfl⟩ (fun hHeld => ?_)
   clear hK K
   refine norm_ (a' := ?_) ?_ ?_
   rotate_left
   ·show Act.put _ (some 29) _ = _
    simp only [sx, i64_w, i32_w]
    rfl
   refine one_ (i := 8) (N := some 32) #[true, true, true, true, true, true, true, true, true, false, false] rfl rfl (one_of HT_.out (by kernel_rfl)) (by decide) (fun K hK => ?_)
   refine goes_ Try.func48 (by kernel_rfl) rfl #[.int .i64 a1_0] (by rfl) rfl rfl (by (try simp only [List.map_toArray, List.map_cons, List.map_nil]); first | done | rfl | (simp only [List.length_drop, List.length_take]; rfl)) ?_
   with_reducible refine (environref02_Of.calls k a1_0 t853 _ A14.out).mono ?_
   rintro e w25 ⟨v854, rfl, ho0, hb⟩
   refine ⟨_, rfl, ?_⟩
   have HO855 := Aside0.mk (Kd.R_lower (Kd.R_new' ho0 (Kd.R_lt (by (with_reducible repeat (first | apply Kd.R_alloc | apply Kd.R_drewN | apply Kd.R_drew)); exact HO852.out))) (below_size (bw HB)))
   replace HO852 := Aside0.mk (Kd.R_elder' (by (with_reducible repeat (first | apply Kd.R_alloc | apply Kd.R_drewN | apply Kd.R_drew)); exact HO852.out) (Kd.R_base ho0) hb)
   replace BK844 := Aside0.mk (bb BK844 hb)
   replace BK845 := Aside0.mk (bb BK845 hb)
   replace HB := Aside0.mk (below_step (bw HB) hb)
   (try clear hb)
   (try clear hb2)
   (try clear hk)
   (try clear hi)
   (try clear ho0)
   obtain ⟨Ao26, co26, eo26⟩ := Kd.R_slice HO852.out
   (first | subst eo26 | (injection eo26 with f1_ f2_ f3_; have f4_ := f1_.symm; have f5_ := f3_.symm; clear f1_ f2_ f3_; subst f4_; subst f5_))
   obtain ⟨Ao27, co27, eo27⟩ := Kd.R_slice HO855.out
   (first | subst eo27 | (injection eo27 with f1_ f2_ f3_; have f4_ := f1_.symm; have f5_ := f3_.symm; clear f1_ f2_ f3_; subst f4_; subst f5_))
   refine hK.out _ _ ⟨(blk_cell BK844.out 0).trans rfl, (blk_cell BK844.out 1).trans rfl, (blk_cell BK845.out 0).trans rfl, (blk_cell BK845.out 1).trans rfl⟩ (fun hHeld => ?_)
   clear hK K
   refine norm_ (a' := ?_) ?_ ?_
   rotate_left
   ·show Act.put _ (some 32) _ = _
    simp only [sx, i64_w, i32_w]
    rfl
   refine one_ (i := 9) (N := some 33) #[true, true, true, true, true, true, true, true, true, true, false] rfl rfl (one_of HT_.out (by kernel_rfl)) (by decide) (fun K hK => ?_)
   refine goes_ Try.func85 (by kernel_rfl) rfl #[.slice Ao26 t850.length co26, .slice Ao27 t853.length co27] (by rfl) rfl rfl (by (try simp only [List.map_toArray, List.map_cons, List.map_nil]); first | done | rfl | (simp only [List.length_drop, List.length_take]; rfl)) ?_
   with_reducible refine (environref02_compare.calls k _ _ t850 _ _ t853 t856 _ ?side1 ?side2 ?side3 ?side4 A15.out).mono ?_
   (case side1 => repeat (first | exact (Kd.R_reads' HO852.out).2.2 | (with_reducible refine Kd.C_alloc ?_ _) | (with_reducible refine Kd.C_drewN ?_ _) | (with_reducible refine Kd.C_drew ?_)))
   (case side2 => exact (Kd.R_reads' HO852.out).2.1)
   (case side3 => repeat (first | exact (Kd.R_reads' HO855.out).2.2 | (with_reducible refine Kd.C_alloc ?_ _) | (with_reducible refine Kd.C_drewN ?_ _) | (with_reducible refine Kd.C_drew ?_)))
   (case side4 => exact (Kd.R_reads' HO855.out).2.1)
   rintro e w' ⟨rfl, ⟨nd, rfl⟩⟩
   refine ⟨_, rfl, ?_⟩
   refine hK.out _ _ ⟨(blk_cell BK844.out 0).trans rfl, (blk_cell BK844.out 1).trans rfl, (blk_cell BK845.out 0).trans rfl, (blk_cell BK845.out 1).trans rfl⟩ (fun hHeld => ?_)
   clear hK K
   refine norm_ (a' := ?_) ?_ ?_
   rotate_left
   ·show Act.put _ (some 33) _ = _
    simp only [sx, i64_w, i32_w]
    rfl
   refine pure_ (i := 10) (N := some 4) (v := ?_) (a' := ?_) #[true, true, true, true, true, true, true, true, true, true, true] rfl rfl (any_of HT_.out (by kernel_rfl)) (fun _ _ _ h => h) (Or.inl ⟨by rfl, ?_⟩) ?_ ?_
   rotate_left
   ·intro w'
    go_simp
    with_reducible rfl
   rotate_left
   ·simp only [sx, i64_w, i32_w]
    rfl
   refine done_ (done_of HT_.out (by kernel_rfl)) ?_
   try go_wp2
   go_ret
   exact ⟨by first | rfl | (simp [errW_none, errW_some] <;> rfl) | (simp [*, errW_none, errW_some] <;> rfl), bw HB⟩
  ·rw [if_neg c11] at H
   have c11b0 : decide ((IntKind.u64.wrap ((IntKind.u64.wrap (a0_1)) - (IntKind.u64.wrap (a1_1)))) ≤ 40) = false := decide_eq_false c11
   clear c11
   obtain rfl := Option.some.inj H
   go_enter Try.func75, Try.ntmps75
   go_wp2_with (first | ((with_reducible refine gate_dst (N := 2) rfl ?_); refine box_event ?hg (N := 2) ?hd (cs := #[.int .i64 a0_0, .int .i64 a0_1]) (t := 29) ?hr ?_; (case hd => rfl); (case hg => rfl); (case hr => first | (go_simp; done) | (go_simp; rfl)); intro gb844 hg w28 hbox hb; have BK844 := Aside0.mk (hbox); have GW844 := Aside0.mk (bs HB hg : w.heap.size ≤ gb844); replace HB := Aside0.mk (below_step (bw HB) hb); clear hb hbox hg) | ((with_reducible refine gate_dst (N := 3) rfl ?_); refine box_event ?hg (N := 3) ?hd (cs := #[.int .i64 a1_0, .int .i64 a1_1]) (t := 29) ?hr ?_; (case hd => rfl); (case hg => rfl); (case hr => first | (go_simp; done) | (go_simp; rfl)); intro gb845 hg w29 hbox hb; have BK845 := Aside0.mk (hbox); have GW845 := Aside0.mk (bs HB hg : w.heap.size ≤ gb845); replace HB := Aside0.mk (below_step (bw HB) hb); have NB844_845 := Aside0.mk (nl BK844 hg); have NB845_844 := Aside0.mk (ng BK844 hg); replace BK844 := Aside0.mk (bb BK844 hb); clear hb hbox hg; have hnb30 := NB844_845.out; have hnc30 := NB845_844.out; obtain ⟨hcz31_0, hcz31_1, hfz31_0, hfz31_1⟩ := cf2 BK844; obtain ⟨hcz32_0, hcz32_1, hfz32_0, hfz32_1⟩ := cf2 BK845))
   go_ret
   exact ⟨by first | rfl | (simp [errW_none, errW_some] <;> rfl) | (simp [*, errW_none, errW_some] <;> rfl), bw HB⟩

/-! ### environref02_Compare: function 43 -/
def environref02_Compare.f (k : Nat) (a0_0 : Int) (a0_1 : Int) (a1_0 : Int) (a1_1 : Int) : Option (Int) := (environref02_sign.f a0_0).bind fun t859 => ((environref02_sign.f a1_0).bind fun t860 => (if t859 = t860 then (if t859 = 0 then (some 0) else ((environref02_larger.f k a0_0 a0_1 a1_0 a1_1).bind fun t861 => (some (wrap64 (t859 * t861))))) else (if t859 < t860 then (some (-1)) else (some 1))))
theorem environref02_Compare.mono : ∀ a0 a1 a2 a3 k, LeO (environref02_Compare.f k a0 a1 a2 a3) (environref02_Compare.f (k + 1) a0 a1 a2 a3) := by
 intro a0 a1 a2 a3 k
 unfold environref02_Compare.f
 repeat' first
   | (with_reducible exact environref02_larger.mono _ _ _ _ _)
   | (with_reducible exact LeO.refl _)
   | (with_reducible exact LeO.none _)
   | (with_reducible refine LeO.ite ?_ ?_)
   | (with_reducible refine LeO.bind ?_ (fun _ => ?_))
   | exact environref02_larger.mono _ _ _ _ _
   | exact LeO.none _
   | refine LeO.ite ?_ ?_
   | refine LeO.bind ?_ (fun _ => ?_)
set_option maxHeartbeats 8000000 in
set_option maxRecDepth 100000 in
theorem environref02_Compare.calls (k : Nat) (a0_0 : Int) (a0_1 : Int) (a1_0 : Int) (a1_1 : Int) (r : Int) (w : World) (h : environref02_Compare.f k a0_0 a0_1 a1_0 a1_1 = some r) :
  Calls Try.prog 43 #[.agg #[.int .i64 a0_0, .int .i64 a0_1], .agg #[.int .i64 a1_0, .int .i64 a1_1]] w fun e w' => e = .returned (.int .i64 r) ∧ Below w.heap.size w w' := by
 have hu29 := Try.underlying29
 have HB := Aside0.mk (Below.refl w.heap.size w)
 have H : ((environref02_sign.f a0_0).bind fun t859 => ((environref02_sign.f a1_0).bind fun t860 => (if t859 = t860 then (if t859 = 0 then (some 0) else ((environref02_larger.f k a0_0 a0_1 a1_0 a1_1).bind fun t861 => (some (wrap64 (t859 * t861))))) else (if t859 < t860 then (some (-1)) else (some 1))))) = some r := h
 clear h
 replace H := Option.bind_eq_some_iff.mp H
 obtain ⟨t859, A30, H⟩ := H
 replace H : ((environref02_sign.f a1_0).bind fun t860 => (if t859 = t860 then (if t859 = 0 then (some 0) else ((environref02_larger.f k a0_0 a0_1 a1_0 a1_1).bind fun t861 => (some (wrap64 (t859 * t861))))) else (if t859 < t860 then (some (-1)) else (some 1)))) = some r := H
 have A3 := Aside0.mk A30
 clear A30
 replace H := Option.bind_eq_some_iff.mp H
 obtain ⟨t860, A40, H⟩ := H
 replace H : (if t859 = t860 then (if t859 = 0 then (some 0) else ((environref02_larger.f k a0_0 a0_1 a1_0 a1_1).bind fun t861 => (some (wrap64 (t859 * t861))))) else (if t859 < t860 then (some (-1)) else (some 1))) = some r := H
 have A4 := Aside0.mk A40
 clear A40
 by_cases c5 : t859 = t860
 ·rw [if_pos c5] at H
  have c5b0 : (t859 == t860) = true := beq_iff_eq.mpr c5
  have c5b1 : (t859 != t860) = false := bne_eq_false_iff_eq.mpr c5
  clear c5
  by_cases c6 : t859 = 0
  ·rw [if_pos c6] at H
   have c6b0 : (t859 == 0) = true := beq_iff_eq.mpr c6
   have c6b1 : (t859 != 0) = false := bne_eq_false_iff_eq.mpr c6
   clear c6
   obtain rfl := Option.some.inj H
   go_enter Try.func43, Try.ntmps43
   go_wp2_with (first | ((with_reducible refine gate_dst (N := 2) rfl ?_); refine box_event ?hg (N := 2) ?hd (cs := #[.int .i64 a0_0, .int .i64 a0_1]) (t := 29) ?hr ?_; (case hd => rfl); (case hg => rfl); (case hr => first | (go_simp; done) | (go_simp; rfl)); intro gb857 hg w7 hbox hb; have BK857 := Aside0.mk (hbox); have GW857 := Aside0.mk (bs HB hg : w.heap.size ≤ gb857); replace HB := Aside0.mk (below_step (bw HB) hb); clear hb hbox hg) | ((with_reducible refine gate_dst (N := 3) rfl ?_); refine box_event ?hg (N := 3) ?hd (cs := #[.int .i64 a1_0, .int .i64 a1_1]) (t := 29) ?hr ?_; (case hd => rfl); (case hg => rfl); (case hr => first | (go_simp; done) | (go_simp; rfl)); intro gb858 hg w8 hbox hb; have BK858 := Aside0.mk (hbox); have GW858 := Aside0.mk (bs HB hg : w.heap.size ≤ gb858); replace HB := Aside0.mk (below_step (bw HB) hb); have NB857_858 := Aside0.mk (nl BK857 hg); have NB858_857 := Aside0.mk (ng BK857 hg); replace BK857 := Aside0.mk (bb BK857 hb); clear hb hbox hg; have hnb9 := NB857_858.out; have hnc9 := NB858_857.out; obtain ⟨hcz10_0, hcz10_1, hfz10_0, hfz10_1⟩ := cf2 BK857) | (go_at_call 74; (with_reducible refine (environref02_sign.calls a0_0 t859 _ A3.out).mono ?_); rintro e w' ⟨rfl, ⟨nd, rfl⟩⟩; (try first | exact ⟨rfl, _, World.drewN_drewN _ _ _⟩ | exact ⟨rfl, _, Eq.trans (World.drewN_drewN _ _ _) (congrArg (World.drewN _) (Nat.add_assoc _ _ _))⟩); obtain ⟨hcz11_0, hcz11_1, hfz11_0, hfz11_1⟩ := cf2 BK858) | (go_at_call 74; (with_reducible refine (environref02_sign.calls a1_0 t860 _ A4.out).mono ?_); rintro e w' ⟨rfl, ⟨nd, rfl⟩⟩; (try first | exact ⟨rfl, _, World.drewN_drewN _ _ _⟩ | exact ⟨rfl, _, Eq.trans (World.drewN_drewN _ _ _) (congrArg (World.drewN _) (Nat.add_assoc _ _ _))⟩)))
   repeat (go_quiet (first | ((with_reducible refine gate_dst (N := 2) rfl ?_); refine box_event ?hg (N := 2) ?hd (cs := #[.int .i64 a0_0, .int .i64 a0_1]) (t := 29) ?hr ?_; (case hd => rfl); (case hg => rfl); (case hr => first | (go_simp; done) | (go_simp; rfl)); intro gb857 hg w7 hbox hb; have BK857 := Aside0.mk (hbox); have GW857 := Aside0.mk (bs HB hg : w.heap.size ≤ gb857); replace HB := Aside0.mk (below_step (bw HB) hb); clear hb hbox hg) | ((with_reducible refine gate_dst (N := 3) rfl ?_); refine box_event ?hg (N := 3) ?hd (cs := #[.int .i64 a1_0, .int .i64 a1_1]) (t := 29) ?hr ?_; (case hd => rfl); (case hg => rfl); (case hr => first | (go_simp; done) | (go_simp; rfl)); intro gb858 hg w8 hbox hb; have BK858 := Aside0.mk (hbox); have GW858 := Aside0.mk (bs HB hg : w.heap.size ≤ gb858); replace HB := Aside0.mk (below_step (bw HB) hb); have NB857_858 := Aside0.mk (nl BK857 hg); have NB858_857 := Aside0.mk (ng BK857 hg); replace BK857 := Aside0.mk (bb BK857 hb); clear hb hbox hg; have hnb9 := NB857_858.out; have hnc9 := NB858_857.out; obtain ⟨hcz10_0, hcz10_1, hfz10_0, hfz10_1⟩ := cf2 BK857) | (go_at_call 74; (with_reducible refine (environref02_sign.calls a0_0 t859 _ A3.out).mono ?_); rintro e w' ⟨rfl, ⟨nd, rfl⟩⟩; (try first | exact ⟨rfl, _, World.drewN_drewN _ _ _⟩ | exact ⟨rfl, _, Eq.trans (World.drewN_drewN _ _ _) (congrArg (World.drewN _) (Nat.add_assoc _ _ _))⟩); obtain ⟨hcz11_0, hcz11_1, hfz11_0, hfz11_1⟩ := cf2 BK858) | (go_at_call 74; (with_reducible refine (environref02_sign.calls a1_0 t860 _ A4.out).mono ?_); rintro e w' ⟨rfl, ⟨nd, rfl⟩⟩; (try first | exact ⟨rfl, _, World.drewN_drewN _ _ _⟩ | exact ⟨rfl, _, Eq.trans (World.drewN_drewN _ _ _) (congrArg (World.drewN _) (Nat.add_assoc _ _ _))⟩))); try go_wp2_with (first | ((with_reducible refine gate_dst (N := 2) rfl ?_); refine box_event ?hg (N := 2) ?hd (cs := #[.int .i64 a0_0, .int .i64 a0_1]) (t := 29) ?hr ?_; (case hd => rfl); (case hg => rfl); (case hr => first | (go_simp; done) | (go_simp; rfl)); intro gb857 hg w7 hbox hb; have BK857 := Aside0.mk (hbox); have GW857 := Aside0.mk (bs HB hg : w.heap.size ≤ gb857); replace HB := Aside0.mk (below_step (bw HB) hb); clear hb hbox hg) | ((with_reducible refine gate_dst (N := 3) rfl ?_); refine box_event ?hg (N := 3) ?hd (cs := #[.int .i64 a1_0, .int .i64 a1_1]) (t := 29) ?hr ?_; (case hd => rfl); (case hg => rfl); (case hr => first | (go_simp; done) | (go_simp; rfl)); intro gb858 hg w8 hbox hb; have BK858 := Aside0.mk (hbox); have GW858 := Aside0.mk (bs HB hg : w.heap.size ≤ gb858); replace HB := Aside0.mk (below_step (bw HB) hb); have NB857_858 := Aside0.mk (nl BK857 hg); have NB858_857 := Aside0.mk (ng BK857 hg); replace BK857 := Aside0.mk (bb BK857 hb); clear hb hbox hg; have hnb9 := NB857_858.out; have hnc9 := NB858_857.out; obtain ⟨hcz10_0, hcz10_1, hfz10_0, hfz10_1⟩ := cf2 BK857) | (go_at_call 74; (with_reducible refine (environref02_sign.calls a0_0 t859 _ A3.out).mono ?_); rintro e w' ⟨rfl, ⟨nd, rfl⟩⟩; (try first | exact ⟨rfl, _, World.drewN_drewN _ _ _⟩ | exact ⟨rfl, _, Eq.trans (World.drewN_drewN _ _ _) (congrArg (World.drewN _) (Nat.add_assoc _ _ _))⟩); obtain ⟨hcz11_0, hcz11_1, hfz11_0, hfz11_1⟩ := cf2 BK858) | (go_at_call 74; (with_reducible refine (environref02_sign.calls a1_0 t860 _ A4.out).mono ?_); rintro e w' ⟨rfl, ⟨nd, rfl⟩⟩; (try first | exact ⟨rfl, _, World.drewN_drewN _ _ _⟩ | exact ⟨rfl, _, Eq.trans (World.drewN_drewN _ _ _) (congrArg (World.drewN _) (Nat.add_assoc _ _ _))⟩))))
   go_ret
   exact ⟨by first | rfl | (simp [errW_none, errW_some] <;> rfl) | (simp [*, errW_none, errW_some] <;> rfl), bw HB⟩
  ·rw [if_neg c6] at H
   have c6b0 : (t859 == 0) = false := beq_eq_false_iff_ne.mpr c6
   have c6b1 : (t859 != 0) = true := bne_iff_ne.mpr c6
   replace H := Option.bind_eq_some_iff.mp H
   obtain ⟨t861, A120, H⟩ := H
   replace H : (some (wrap64 (t859 * t861))) = some r := H
   have A12 := Aside0.mk A120
   clear A120
   obtain rfl := Option.some.inj H
   go_enter Try.func43, Try.ntmps43
   go_wp2_with (first | ((with_reducible refine gate_dst (N := 2) rfl ?_); refine box_event ?hg (N := 2) ?hd (cs := #[.int .i64 a0_0, .int .i64 a0_1]) (t := 29) ?hr ?_; (case hd => rfl); (case hg => rfl); (case hr => first | (go_simp; done) | (go_simp; rfl)); intro gb857 hg w13 hbox hb; have BK857 := Aside0.mk (hbox); have GW857 := Aside0.mk (bs HB hg : w.heap.size ≤ gb857); replace HB := Aside0.mk (below_step (bw HB) hb); clear hb hbox hg) | ((with_reducible refine gate_dst (N := 3) rfl ?_); refine box_event ?hg (N := 3) ?hd (cs := #[.int .i64 a1_0, .int .i64 a1_1]) (t := 29) ?hr ?_; (case hd => rfl); (case hg => rfl); (case hr => first | (go_simp; done) | (go_simp; rfl)); intro gb858 hg w14 hbox hb; have BK858 := Aside0.mk (hbox); have GW858 := Aside0.mk (bs HB hg : w.heap.size ≤ gb858); replace HB := Aside0.mk (below_step (bw HB) hb); have NB857_858 := Aside0.mk (nl BK857 hg); have NB858_857 := Aside0.mk (ng BK857 hg); replace BK857 := Aside0.mk (bb BK857 hb); clear hb hbox hg; have hnb15 := NB857_858.out; have hnc15 := NB858_857.out; obtain ⟨hcz16_0, hcz16_1, hfz16_0, hfz16_1⟩ := cf2 BK857) | (go_at_call 74; (with_reducible refine (environref02_sign.calls a0_0 t859 _ A3.out).mono ?_); rintro e w' ⟨rfl, ⟨nd, rfl⟩⟩; (try first | exact ⟨rfl, _, World.drewN_drewN _ _ _⟩ | exact ⟨rfl, _, Eq.trans (World.drewN_drewN _ _ _) (congrArg (World.drewN _) (Nat.add_assoc _ _ _))⟩); obtain ⟨hcz17_0, hcz17_1, hfz17_0, hfz17_1⟩ := cf2 BK858) | (go_at_call 74; (with_reducible refine (environref02_sign.calls a1_0 t860 _ A4.out).mono ?_); rintro e w' ⟨rfl, ⟨nd, rfl⟩⟩; (try first | exact ⟨rfl, _, World.drewN_drewN _ _ _⟩ | exact ⟨rfl, _, Eq.trans (World.drewN_drewN _ _ _) (congrArg (World.drewN _) (Nat.add_assoc _ _ _))⟩)) | (go_at_call 75; (with_reducible refine (environref02_larger.calls k a0_0 a0_1 a1_0 a1_1 t861 _ A12.out).mono ?_); rintro e w18 ⟨rfl, hb⟩; replace BK857 := Aside0.mk (bb BK857 hb); replace BK858 := Aside0.mk (bb BK858 hb); replace HB := Aside0.mk (below_step (bw HB) hb); (try clear hb); (try clear hb2); (try clear hk); (try clear hi)))
   repeat (go_quiet (first | ((with_reducible refine gate_dst (N := 2) rfl ?_); refine box_event ?hg (N := 2) ?hd (cs := #[.int .i64 a0_0, .int .i64 a0_1]) (t := 29) ?hr ?_; (case hd => rfl); (case hg => rfl); (case hr => first | (go_simp; done) | (go_simp; rfl)); intro gb857 hg w13 hbox hb; have BK857 := Aside0.mk (hbox); have GW857 := Aside0.mk (bs HB hg : w.heap.size ≤ gb857); replace HB := Aside0.mk (below_step (bw HB) hb); clear hb hbox hg) | ((with_reducible refine gate_dst (N := 3) rfl ?_); refine box_event ?hg (N := 3) ?hd (cs := #[.int .i64 a1_0, .int .i64 a1_1]) (t := 29) ?hr ?_; (case hd => rfl); (case hg => rfl); (case hr => first | (go_simp; done) | (go_simp; rfl)); intro gb858 hg w14 hbox hb; have BK858 := Aside0.mk (hbox); have GW858 := Aside0.mk (bs HB hg : w.heap.size ≤ gb858); replace HB := Aside0.mk (below_step (bw HB) hb); have NB857_858 := Aside0.mk (nl BK857 hg); have NB858_857 := Aside0.mk (ng BK857 hg); replace BK857 := Aside0.mk (bb BK857 hb); clear hb hbox hg; have hnb15 := NB857_858.out; have hnc15 := NB858_857.out; obtain ⟨hcz16_0, hcz16_1, hfz16_0, hfz16_1⟩ := cf2 BK857) | (go_at_call 74; (with_reducible refine (environref02_sign.calls a0_0 t859 _ A3.out).mono ?_); rintro e w' ⟨rfl, ⟨nd, rfl⟩⟩; (try first | exact ⟨rfl, _, World.drewN_drewN _ _ _⟩ | exact ⟨rfl, _, Eq.trans (World.drewN_drewN _ _ _) (congrArg (World.drewN _) (Nat.add_assoc _ _ _))⟩); obtain ⟨hcz17_0, hcz17_1, hfz17_0, hfz17_1⟩ := cf2 BK858) | (go_at_call 74; (with_reducible refine (environref02_sign.calls a1_0 t860 _ A4.out).mono ?_); rintro e w' ⟨rfl, ⟨nd, rfl⟩⟩; (try first | exact ⟨rfl, _, World.drewN_drewN _ _ _⟩ | exact ⟨rfl, _, Eq.trans (World.drewN_drewN _ _ _) (congrArg (World.drewN _) (Nat.add_assoc _ _ _))⟩)) | (go_at_call 75; (with_reducible refine (environref02_larger.calls k a0_0 a0_1 a1_0 a1_1 t861 _ A12.out).mono ?_); rintro e w18 ⟨rfl, hb⟩; replace BK857 := Aside0.mk (bb BK857 hb); replace BK858 := Aside0.mk (bb BK858 hb); replace HB := Aside0.mk (below_step (bw HB) hb); (try clear hb); (try clear hb2); (try clear hk); (try clear hi))); try go_wp2_with (first | ((with_reducible refine gate_dst (N := 2) rfl ?_); refine box_event ?hg (N := 2) ?hd (cs := #[.int .i64 a0_0, .int .i64 a0_1]) (t := 29) ?hr ?_; (case hd => rfl); (case hg => rfl); (case hr => first | (go_simp; done) | (go_simp; rfl)); intro gb857 hg w13 hbox hb; have BK857 := Aside0.mk (hbox); have GW857 := Aside0.mk (bs HB hg : w.heap.size ≤ gb857); replace HB := Aside0.mk (below_step (bw HB) hb); clear hb hbox hg) | ((with_reducible refine gate_dst (N := 3) rfl ?_); refine box_event ?hg (N := 3) ?hd (cs := #[.int .i64 a1_0, .int .i64 a1_1]) (t := 29) ?hr ?_; (case hd => rfl); (case hg => rfl); (case hr => first | (go_simp; done) | (go_simp; rfl)); intro gb858 hg w14 hbox hb; have BK858 := Aside0.mk (hbox); have GW858 := Aside0.mk (bs HB hg : w.heap.size ≤ gb858); replace HB := Aside0.mk (below_step (bw HB) hb); have NB857_858 := Aside0.mk (nl BK857 hg); have NB858_857 := Aside0.mk (ng BK857 hg); replace BK857 := Aside0.mk (bb BK857 hb); clear hb hbox hg; have hnb15 := NB857_858.out; have hnc15 := NB858_857.out; obtain ⟨hcz16_0, hcz16_1, hfz16_0, hfz16_1⟩ := cf2 BK857) | (go_at_call 74; (with_reducible refine (environref02_sign.calls a0_0 t859 _ A3.out).mono ?_); rintro e w' ⟨rfl, ⟨nd, rfl⟩⟩; (try first | exact ⟨rfl, _, World.drewN_drewN _ _ _⟩ | exact ⟨rfl, _, Eq.trans (World.drewN_drewN _ _ _) (congrArg (World.drewN _) (Nat.add_assoc _ _ _))⟩); obtain ⟨hcz17_0, hcz17_1, hfz17_0, hfz17_1⟩ := cf2 BK858) | (go_at_call 74; (with_reducible refine (environref02_sign.calls a1_0 t860 _ A4.out).mono ?_); rintro e w' ⟨rfl, ⟨nd, rfl⟩⟩; (try first | exact ⟨rfl, _, World.drewN_drewN _ _ _⟩ | exact ⟨rfl, _, Eq.trans (World.drewN_drewN _ _ _) (congrArg (World.drewN _) (Nat.add_assoc _ _ _))⟩)) | (go_at_call 75; (with_reducible refine (environref02_larger.calls k a0_0 a0_1 a1_0 a1_1 t861 _ A12.out).mono ?_); rintro e w18 ⟨rfl, hb⟩; replace BK857 := Aside0.mk (bb BK857 hb); replace BK858 := Aside0.mk (bb BK858 hb); replace HB := Aside0.mk (below_step (bw HB) hb); (try clear hb); (try clear hb2); (try clear hk); (try clear hi))))
   go_ret
   exact ⟨by first | rfl | (simp [errW_none, errW_some] <;> rfl) | (simp [*, errW_none, errW_some] <;> rfl), bw HB⟩
 ·rw [if_neg c5] at H
  have c5b0 : (t859 == t860) = false := beq_eq_false_iff_ne.mpr c5
  have c5b1 : (t859 != t860) = true := bne_iff_ne.mpr c5
  by_cases c19 : t859 < t860
  ·rw [if_pos c19] at H
   have c19b0 : decide (t859 < t860) = true := decide_eq_true c19
   clear c19
   obtain rfl := Option.some.inj H
   go_enter Try.func43, Try.ntmps43
   go_wp2_with (first | ((with_reducible refine gate_dst (N := 2) rfl ?_); refine box_event ?hg (N := 2) ?hd (cs := #[.int .i64 a0_0, .int .i64 a0_1]) (t := 29) ?hr ?_; (case hd => rfl); (case hg => rfl); (case hr => first | (go_simp; done) | (go_simp; rfl)); intro gb857 hg w20 hbox hb; have BK857 := Aside0.mk (hbox); have GW857 := Aside0.mk (bs HB hg : w.heap.size ≤ gb857); replace HB := Aside0.mk (below_step (bw HB) hb); clear hb hbox hg) | ((with_reducible refine gate_dst (N := 3) rfl ?_); refine box_event ?hg (N := 3) ?hd (cs := #[.int .i64 a1_0, .int .i64 a1_1]) (t := 29) ?hr ?_; (case hd => rfl); (case hg => rfl); (case hr => first | (go_simp; done) | (go_simp; rfl)); intro gb858 hg w21 hbox hb; have BK858 := Aside0.mk (hbox); have GW858 := Aside0.mk (bs HB hg : w.heap.size ≤ gb858); replace HB := Aside0.mk (below_step (bw HB) hb); have NB857_858 := Aside0.mk (nl BK857 hg); have NB858_857 := Aside0.mk (ng BK857 hg); replace BK857 := Aside0.mk (bb BK857 hb); clear hb hbox hg; have hnb22 := NB857_858.out; have hnc22 := NB858_857.out; obtain ⟨hcz23_0, hcz23_1, hfz23_0, hfz23_1⟩ := cf2 BK857) | (go_at_call 74; (with_reducible refine (environref02_sign.calls a0_0 t859 _ A3.out).mono ?_); rintro e w' ⟨rfl, ⟨nd, rfl⟩⟩; (try first | exact ⟨rfl, _, World.drewN_drewN _ _ _⟩ | exact ⟨rfl, _, Eq.trans (World.drewN_drewN _ _ _) (congrArg (World.drewN _) (Nat.add_assoc _ _ _))⟩); obtain ⟨hcz24_0, hcz24_1, hfz24_0, hfz24_1⟩ := cf2 BK858) | (go_at_call 74; (with_reducible refine (environref02_sign.calls a1_0 t860 _ A4.out).mono ?_); rintro e w' ⟨rfl, ⟨nd, rfl⟩⟩; (try first | exact ⟨rfl, _, World.drewN_drewN _ _ _⟩ | exact ⟨rfl, _, Eq.trans (World.drewN_drewN _ _ _) (congrArg (World.drewN _) (Nat.add_assoc _ _ _))⟩)))
   repeat (go_quiet (first | ((with_reducible refine gate_dst (N := 2) rfl ?_); refine box_event ?hg (N := 2) ?hd (cs := #[.int .i64 a0_0, .int .i64 a0_1]) (t := 29) ?hr ?_; (case hd => rfl); (case hg => rfl); (case hr => first | (go_simp; done) | (go_simp; rfl)); intro gb857 hg w20 hbox hb; have BK857 := Aside0.mk (hbox); have GW857 := Aside0.mk (bs HB hg : w.heap.size ≤ gb857); replace HB := Aside0.mk (below_step (bw HB) hb); clear hb hbox hg) | ((with_reducible refine gate_dst (N := 3) rfl ?_); refine box_event ?hg (N := 3) ?hd (cs := #[.int .i64 a1_0, .int .i64 a1_1]) (t := 29) ?hr ?_; (case hd => rfl); (case hg => rfl); (case hr => first | (go_simp; done) | (go_simp; rfl)); intro gb858 hg w21 hbox hb; have BK858 := Aside0.mk (hbox); have GW858 := Aside0.mk (bs HB hg : w.heap.size ≤ gb858); replace HB := Aside0.mk (below_step (bw HB) hb); have NB857_858 := Aside0.mk (nl BK857 hg); have NB858_857 := Aside0.mk (ng BK857 hg); replace BK857 := Aside0.mk (bb BK857 hb); clear hb hbox hg; have hnb22 := NB857_858.out; have hnc22 := NB858_857.out; obtain ⟨hcz23_0, hcz23_1, hfz23_0, hfz23_1⟩ := cf2 BK857) | (go_at_call 74; (with_reducible refine (environref02_sign.calls a0_0 t859 _ A3.out).mono ?_); rintro e w' ⟨rfl, ⟨nd, rfl⟩⟩; (try first | exact ⟨rfl, _, World.drewN_drewN _ _ _⟩ | exact ⟨rfl, _, Eq.trans (World.drewN_drewN _ _ _) (congrArg (World.drewN _) (Nat.add_assoc _ _ _))⟩); obtain ⟨hcz24_0, hcz24_1, hfz24_0, hfz24_1⟩ := cf2 BK858) | (go_at_call 74; (with_reducible refine (environref02_sign.calls a1_0 t860 _ A4.out).mono ?_); rintro e w' ⟨rfl, ⟨nd, rfl⟩⟩; (try first | exact ⟨rfl, _, World.drewN_drewN _ _ _⟩ | exact ⟨rfl, _, Eq.trans (World.drewN_drewN _ _ _) (congrArg (World.drewN _) (Nat.add_assoc _ _ _))⟩))); try go_wp2_with (first | ((with_reducible refine gate_dst (N := 2) rfl ?_); refine box_event ?hg (N := 2) ?hd (cs := #[.int .i64 a0_0, .int .i64 a0_1]) (t := 29) ?hr ?_; (case hd => rfl); (case hg => rfl); (case hr => first | (go_simp; done) | (go_simp; rfl)); intro gb857 hg w20 hbox hb; have BK857 := Aside0.mk (hbox); have GW857 := Aside0.mk (bs HB hg : w.heap.size ≤ gb857); replace HB := Aside0.mk (below_step (bw HB) hb); clear hb hbox hg) | ((with_reducible refine gate_dst (N := 3) rfl ?_); refine box_event ?hg (N := 3) ?hd (cs := #[.int .i64 a1_0, .int .i64 a1_1]) (t := 29) ?hr ?_; (case hd => rfl); (case hg => rfl); (case hr => first | (go_simp; done) | (go_simp; rfl)); intro gb858 hg w21 hbox hb; have BK858 := Aside0.mk (hbox); have GW858 := Aside0.mk (bs HB hg : w.heap.size ≤ gb858); replace HB := Aside0.mk (below_step (bw HB) hb); have NB857_858 := Aside0.mk (nl BK857 hg); have NB858_857 := Aside0.mk (ng BK857 hg); replace BK857 := Aside0.mk (bb BK857 hb); clear hb hbox hg; have hnb22 := NB857_858.out; have hnc22 := NB858_857.out; obtain ⟨hcz23_0, hcz23_1, hfz23_0, hfz23_1⟩ := cf2 BK857) | (go_at_call 74; (with_reducible refine (environref02_sign.calls a0_0 t859 _ A3.out).mono ?_); rintro e w' ⟨rfl, ⟨nd, rfl⟩⟩; (try first | exact ⟨rfl, _, World.drewN_drewN _ _ _⟩ | exact ⟨rfl, _, Eq.trans (World.drewN_drewN _ _ _) (congrArg (World.drewN _) (Nat.add_assoc _ _ _))⟩); obtain ⟨hcz24_0, hcz24_1, hfz24_0, hfz24_1⟩ := cf2 BK858) | (go_at_call 74; (with_reducible refine (environref02_sign.calls a1_0 t860 _ A4.out).mono ?_); rintro e w' ⟨rfl, ⟨nd, rfl⟩⟩; (try first | exact ⟨rfl, _, World.drewN_drewN _ _ _⟩ | exact ⟨rfl, _, Eq.trans (World.drewN_drewN _ _ _) (congrArg (World.drewN _) (Nat.add_assoc _ _ _))⟩))))
   go_ret
   exact ⟨by first | rfl | (simp [errW_none, errW_some] <;> rfl) | (simp [*, errW_none, errW_some] <;> rfl), bw HB⟩
  ·rw [if_neg c19] at H
   have c19b0 : decide (t859 < t860) = false := decide_eq_false c19
   clear c19
   obtain rfl := Option.some.inj H
   go_enter Try.func43, Try.ntmps43
   go_wp2_with (first | ((with_reducible refine gate_dst (N := 2) rfl ?_); refine box_event ?hg (N := 2) ?hd (cs := #[.int .i64 a0_0, .int .i64 a0_1]) (t := 29) ?hr ?_; (case hd => rfl); (case hg => rfl); (case hr => first | (go_simp; done) | (go_simp; rfl)); intro gb857 hg w25 hbox hb; have BK857 := Aside0.mk (hbox); have GW857 := Aside0.mk (bs HB hg : w.heap.size ≤ gb857); replace HB := Aside0.mk (below_step (bw HB) hb); clear hb hbox hg) | ((with_reducible refine gate_dst (N := 3) rfl ?_); refine box_event ?hg (N := 3) ?hd (cs := #[.int .i64 a1_0, .int .i64 a1_1]) (t := 29) ?hr ?_; (case hd => rfl); (case hg => rfl); (case hr => first | (go_simp; done) | (go_simp; rfl)); intro gb858 hg w26 hbox hb; have BK858 := Aside0.mk (hbox); have GW858 := Aside0.mk (bs HB hg : w.heap.size ≤ gb858); replace HB := Aside0.mk (below_step (bw HB) hb); have NB857_858 := Aside0.mk (nl BK857 hg); have NB858_857 := Aside0.mk (ng BK857 hg); replace BK857 := Aside0.mk (bb BK857 hb); clear hb hbox hg; have hnb27 := NB857_858.out; have hnc27 := NB858_857.out; obtain ⟨hcz28_0, hcz28_1, hfz28_0, hfz28_1⟩ := cf2 BK857) | (go_at_call 74; (with_reducible refine (environref02_sign.calls a0_0 t859 _ A3.out).mono ?_); rintro e w' ⟨rfl, ⟨nd, rfl⟩⟩; (try first | exact ⟨rfl, _, World.drewN_drewN _ _ _⟩ | exact ⟨rfl, _, Eq.trans (World.drewN_drewN _ _ _) (congrArg (World.drewN _) (Nat.add_assoc _ _ _))⟩); obtain ⟨hcz29_0, hcz29_1, hfz29_0, hfz29_1⟩ := cf2 BK858) | (go_at_call 74; (with_reducible refine (environref02_sign.calls a1_0 t860 _ A4.out).mono ?_); rintro e w' ⟨rfl, ⟨nd, rfl⟩⟩; (try first | exact ⟨rfl, _, World.drewN_drewN _ _ _⟩ | exact ⟨rfl, _, Eq.trans (World.drewN_drewN _ _ _) (congrArg (World.drewN _) (Nat.add_assoc _ _ _))⟩)))
   repeat (go_quiet (first | ((with_reducible refine gate_dst (N := 2) rfl ?_); refine box_event ?hg (N := 2) ?hd (cs := #[.int .i64 a0_0, .int .i64 a0_1]) (t := 29) ?hr ?_; (case hd => rfl); (case hg => rfl); (case hr => first | (go_simp; done) | (go_simp; rfl)); intro gb857 hg w25 hbox hb; have BK857 := Aside0.mk (hbox); have GW857 := Aside0.mk (bs HB hg : w.heap.size ≤ gb857); replace HB := Aside0.mk (below_step (bw HB) hb); clear hb hbox hg) | ((with_reducible refine gate_dst (N := 3) rfl ?_); refine box_event ?hg (N := 3) ?hd (cs := #[.int .i64 a1_0, .int .i64 a1_1]) (t := 29) ?hr ?_; (case hd => rfl); (case hg => rfl); (case hr => first | (go_simp; done) | (go_simp; rfl)); intro gb858 hg w26 hbox hb; have BK858 := Aside0.mk (hbox); have GW858 := Aside0.mk (bs HB hg : w.heap.size ≤ gb858); replace HB := Aside0.mk (below_step (bw HB) hb); have NB857_858 := Aside0.mk (nl BK857 hg); have NB858_857 := Aside0.mk (ng BK857 hg); replace BK857 := Aside0.mk (bb BK857 hb); clear hb hbox hg; have hnb27 := NB857_858.out; have hnc27 := NB858_857.out; obtain ⟨hcz28_0, hcz28_1, hfz28_0, hfz28_1⟩ := cf2 BK857) | (go_at_call 74; (with_reducible refine (environref02_sign.calls a0_0 t859 _ A3.out).mono ?_); rintro e w' ⟨rfl, ⟨nd, rfl⟩⟩; (try first | exact ⟨rfl, _, World.drewN_drewN _ _ _⟩ | exact ⟨rfl, _, Eq.trans (World.drewN_drewN _ _ _) (congrArg (World.drewN _) (Nat.add_assoc _ _ _))⟩); obtain ⟨hcz29_0, hcz29_1, hfz29_0, hfz29_1⟩ := cf2 BK858) | (go_at_call 74; (with_reducible refine (environref02_sign.calls a1_0 t860 _ A4.out).mono ?_); rintro e w' ⟨rfl, ⟨nd, rfl⟩⟩; (try first | exact ⟨rfl, _, World.drewN_drewN _ _ _⟩ | exact ⟨rfl, _, Eq.trans (World.drewN_drewN _ _ _) (congrArg (World.drewN _) (Nat.add_assoc _ _ _))⟩))); try go_wp2_with (first | ((with_reducible refine gate_dst (N := 2) rfl ?_); refine box_event ?hg (N := 2) ?hd (cs := #[.int .i64 a0_0, .int .i64 a0_1]) (t := 29) ?hr ?_; (case hd => rfl); (case hg => rfl); (case hr => first | (go_simp; done) | (go_simp; rfl)); intro gb857 hg w25 hbox hb; have BK857 := Aside0.mk (hbox); have GW857 := Aside0.mk (bs HB hg : w.heap.size ≤ gb857); replace HB := Aside0.mk (below_step (bw HB) hb); clear hb hbox hg) | ((with_reducible refine gate_dst (N := 3) rfl ?_); refine box_event ?hg (N := 3) ?hd (cs := #[.int .i64 a1_0, .int .i64 a1_1]) (t := 29) ?hr ?_; (case hd => rfl); (case hg => rfl); (case hr => first | (go_simp; done) | (go_simp; rfl)); intro gb858 hg w26 hbox hb; have BK858 := Aside0.mk (hbox); have GW858 := Aside0.mk (bs HB hg : w.heap.size ≤ gb858); replace HB := Aside0.mk (below_step (bw HB) hb); have NB857_858 := Aside0.mk (nl BK857 hg); have NB858_857 := Aside0.mk (ng BK857 hg); replace BK857 := Aside0.mk (bb BK857 hb); clear hb hbox hg; have hnb27 := NB857_858.out; have hnc27 := NB858_857.out; obtain ⟨hcz28_0, hcz28_1, hfz28_0, hfz28_1⟩ := cf2 BK857) | (go_at_call 74; (with_reducible refine (environref02_sign.calls a0_0 t859 _ A3.out).mono ?_); rintro e w' ⟨rfl, ⟨nd, rfl⟩⟩; (try first | exact ⟨rfl, _, World.drewN_drewN _ _ _⟩ | exact ⟨rfl, _, Eq.trans (World.drewN_drewN _ _ _) (congrArg (World.drewN _) (Nat.add_assoc _ _ _))⟩); obtain ⟨hcz29_0, hcz29_1, hfz29_0, hfz29_1⟩ := cf2 BK858) | (go_at_call 74; (with_reducible refine (environref02_sign.calls a1_0 t860 _ A4.out).mono ?_); rintro e w' ⟨rfl, ⟨nd, rfl⟩⟩; (try first | exact ⟨rfl, _, World.drewN_drewN _ _ _⟩ | exact ⟨rfl, _, Eq.trans (World.drewN_drewN _ _ _) (congrArg (World.drewN _) (Nat.add_assoc _ _ _))⟩))))
   go_ret
   exact ⟨by first | rfl | (simp [errW_none, errW_some] <;> rfl) | (simp [*, errW_none, errW_some] <;> rfl), bw HB⟩

/-! ### environref02_Leng: function 44 -/
def environref02_Leng.f (k : Nat) (a0 : Int) (a1_0 : Int) (a1_1 : Int) : Option (Int × Int × Int) := if a0 = 1 then (some (0, 0, 1)) else ((environref02_right.f k a0 0 a1_0 a1_1 0 0).bind fun t864 => (if t864 = 0 then (some (a1_0, a1_1, 0)) else (some (0, 0, t864))))
theorem environref02_Leng.mono : ∀ a0 a1 a2 k, LeO (environref02_Leng.f k a0 a1 a2) (environref02_Leng.f (k + 1) a0 a1 a2) := by
 intro a0 a1 a2 k
 unfold environref02_Leng.f
 repeat' first
   | (with_reducible exact environref02_right.mono _ _ _ _ _ _ _)
   | (with_reducible exact LeO.refl _)
   | (with_reducible exact LeO.none _)
   | (with_reducible refine LeO.ite ?_ ?_)
   | (with_reducible refine LeO.bind ?_ (fun _ => ?_))
   | exact environref02_right.mono _ _ _ _ _ _ _
   | exact LeO.none _
   | refine LeO.ite ?_ ?_
   | refine LeO.bind ?_ (fun _ => ?_)
set_option maxHeartbeats 8000000 in
set_option maxRecDepth 100000 in
theorem environref02_Leng.calls (k : Nat) (a0 : Int) (a1_0 : Int) (a1_1 : Int) (r1 : Int) (r2 : Int) (r3 : Int) (w : World) (h : environref02_Leng.f k a0 a1_0 a1_1 = some (r1, r2, r3)) :
  Calls Try.prog 44 #[.int .i64 a0, .agg #[.int .i64 a1_0, .int .i64 a1_1]] w fun e w' => e = .returned (.tuple #[.agg #[.int .i64 r1, .int .i64 r2], .int .i64 r3]) ∧ Below w.heap.size w w' := by
 have hu29 := Try.underlying29
 have HB := Aside0.mk (Below.refl w.heap.size w)
 have H : (if a0 = 1 then (some (0, 0, 1)) else ((environref02_right.f k a0 0 a1_0 a1_1 0 0).bind fun t864 => (if t864 = 0 then (some (a1_0, a1_1, 0)) else (some (0, 0, t864))))) = some (r1, r2, r3) := h
 clear h
 by_cases c3 : a0 = 1
 ·rw [if_pos c3] at H
  have c3b0 : (a0 == 1) = true := beq_iff_eq.mpr c3
  have c3b1 : (a0 != 1) = false := bne_eq_false_iff_eq.mpr c3
  clear c3
  simp only [Option.some.injEq, Prod.mk.injEq] at H
  obtain ⟨rfl, rfl, rfl⟩ := H
  go_enter Try.func44, Try.ntmps44
  go_wp2_with (first | ((with_reducible refine gate_dst (N := 3) rfl ?_); refine box_event ?hg (N := 3) ?hd (cs := #[.int .i64 a1_0, .int .i64 a1_1]) (t := 29) ?hr ?_; (case hd => rfl); (case hg => rfl); (case hr => first | (go_simp; done) | (go_simp; rfl)); intro gb862 hg w4 hbox hb; have BK862 := Aside0.mk (hbox); have GW862 := Aside0.mk (bs HB hg : w.heap.size ≤ gb862); replace HB := Aside0.mk (below_step (bw HB) hb); clear hb hbox hg) | ((with_reducible refine gate_dst (N := 4) rfl ?_); refine box_event ?hg (N := 4) ?hd (cs := #[.int .i64 0, .int .i64 0]) (t := 29) ?hr ?_; (case hd => rfl); (case hg => rfl); (case hr => first | (go_simp; done) | (go_simp; rfl)); intro gb863 hg w5 hbox hb; have BK863 := Aside0.mk (hbox); have GW863 := Aside0.mk (bs HB hg : w.heap.size ≤ gb863); replace HB := Aside0.mk (below_step (bw HB) hb); have NB862_863 := Aside0.mk (nl BK862 hg); have NB863_862 := Aside0.mk (ng BK862 hg); replace BK862 := Aside0.mk (bb BK862 hb); clear hb hbox hg; have hnb6 := NB863_862.out; have hnc6 := NB862_863.out; obtain ⟨hcz7_0, hcz7_1, hfz7_0, hfz7_1⟩ := cf2 BK863))
  refine bodyPost_ret (results_ct rfl _ _ gb863 29 #[.int .i64 0, .int .i64 0] (0, 0) _ rfl (by (with_reducible repeat (first | refine blk_drewN ?_ _ | refine blk_drew ?_ | refine blk_alloc ?_ _)); refine blk_put (cs := #[.int .i64 0, .int .i64 0]) ?_ 1 _ rfl; (with_reducible repeat (first | refine blk_drewN ?_ _ | refine blk_drew ?_ | refine blk_alloc ?_ _)); refine blk_put (cs := #[.int .i64 0, .int .i64 0]) ?_ 0 _ rfl; (with_reducible repeat (first | refine blk_drewN ?_ _ | refine blk_drew ?_ | refine blk_alloc ?_ _)); exact BK863.out) Try.underlying29 rfl (by kernel_rfl)) rfl ?_
  exact ⟨by first | rfl | (simp [errW_none, errW_some] <;> rfl) | (simp [*, errW_none, errW_some] <;> rfl), bw HB⟩
 ·rw [if_neg c3] at H
  have c3b0 : (a0 == 1) = false := beq_eq_false_iff_ne.mpr c3
  have c3b1 : (a0 != 1) = true := bne_iff_ne.mpr c3
  replace H := Option.bind_eq_some_iff.mp H
  obtain ⟨t864, A80, H⟩ := H
  replace H : (if t864 = 0 then (some (a1_0, a1_1, 0)) else (some (0, 0, t864))) = some (r1, r2, r3) := H
  have A8 := Aside0.mk A80
  clear A80
  by_cases c9 : t864 = 0
  ·rw [if_pos c9] at H
   have c9b0 : (t864 == 0) = true := beq_iff_eq.mpr c9
   have c9b1 : (t864 != 0) = false := bne_eq_false_iff_eq.mpr c9
   clear c9
   simp only [Option.some.injEq, Prod.mk.injEq] at H
   obtain ⟨rfl, rfl, rfl⟩ := H
   go_enter Try.func44, Try.ntmps44
   go_wp2_with (first | ((with_reducible refine gate_dst (N := 3) rfl ?_); refine box_event ?hg (N := 3) ?hd (cs := #[.int .i64 a1_0, .int .i64 a1_1]) (t := 29) ?hr ?_; (case hd => rfl); (case hg => rfl); (case hr => first | (go_simp; done) | (go_simp; rfl)); intro gb862 hg w10 hbox hb; have BK862 := Aside0.mk (hbox); have GW862 := Aside0.mk (bs HB hg : w.heap.size ≤ gb862); replace HB := Aside0.mk (below_step (bw HB) hb); clear hb hbox hg) | ((with_reducible refine gate_dst (N := 4) rfl ?_); refine box_event ?hg (N := 4) ?hd (cs := #[.int .i64 0, .int .i64 0]) (t := 29) ?hr ?_; (case hd => rfl); (case hg => rfl); (case hr => first | (go_simp; done) | (go_simp; rfl)); intro gb863 hg w11 hbox hb; have BK863 := Aside0.mk (hbox); have GW863 := Aside0.mk (bs HB hg : w.heap.size ≤ gb863); replace HB := Aside0.mk (below_step (bw HB) hb); have NB862_863 := Aside0.mk (nl BK862 hg); have NB863_862 := Aside0.mk (ng BK862 hg); replace BK862 := Aside0.mk (bb BK862 hb); clear hb hbox hg; have hnb12 := NB862_863.out; have hnc12 := NB863_862.out; obtain ⟨hcz13_0, hcz13_1, hfz13_0, hfz13_1⟩ := cf2 BK862) | ((with_reducible refine gate_callee (f := 53) rfl ?_); refine goesL_ (some 13) rfl rfl Try.func53 (by kernel_rfl) rfl #[.int .i64 a0, .int .i64 0, .agg #[.int .i64 a1_0, .int .i64 a1_1], .agg #[.int .i64 0, .int .i64 0]] rfl (by (try simp only [List.map_toArray, List.map_cons, List.map_nil]); first | done | rfl | (simp only [List.length_drop, List.length_take]; rfl)) ?_; (with_reducible refine (environref02_right.calls k a0 0 a1_0 a1_1 0 0 t864 _ A8.out).mono ?_); rintro e w14 ⟨rfl, hb⟩; refine ⟨_, rfl, ?_⟩; replace BK862 := Aside0.mk (bb BK862 hb); replace BK863 := Aside0.mk (bb BK863 hb); replace HB := Aside0.mk (below_step (bw HB) hb); (try clear hb); (try clear hb2); (try clear hk); (try clear hi); obtain ⟨hcz15_0, hcz15_1, hfz15_0, hfz15_1⟩ := cf2 BK862; obtain ⟨hcz16_0, hcz16_1, hfz16_0, hfz16_1⟩ := cf2 BK863))
   refine bodyPost_ret (results_ct rfl _ _ gb863 29 #[.int .i64 a1_0, .int .i64 a1_1] (0, 0) _ rfl (by (with_reducible repeat (first | refine blk_drewN ?_ _ | refine blk_drew ?_ | refine blk_alloc ?_ _)); refine blk_put (cs := #[.int .i64 a1_0, .int .i64 0]) ?_ 1 _ rfl; (with_reducible repeat (first | refine blk_drewN ?_ _ | refine blk_drew ?_ | refine blk_alloc ?_ _)); refine blk_put (cs := #[.int .i64 0, .int .i64 0]) ?_ 0 _ rfl; (with_reducible repeat (first | refine blk_drewN ?_ _ | refine blk_drew ?_ | refine blk_alloc ?_ _)); exact BK863.out) Try.underlying29 rfl (by kernel_rfl)) rfl ?_
   exact ⟨by first | rfl | (simp [errW_none, errW_some] <;> rfl) | (simp [*, errW_none, errW_some] <;> rfl), bw HB⟩
  ·rw [if_neg c9] at H
   have c9b0 : (t864 == 0) = false := beq_eq_false_iff_ne.mpr c9
   have c9b1 : (t864 != 0) = true := bne_iff_ne.mpr c9
   simp only [Option.some.injEq, Prod.mk.injEq] at H
   obtain ⟨rfl, rfl, rfl⟩ := H
   go_enter Try.func44, Try.ntmps44
   go_wp2_with (first | ((with_reducible refine gate_dst (N := 3) rfl ?_); refine box_event ?hg (N := 3) ?hd (cs := #[.int .i64 a1_0, .int .i64 a1_1]) (t := 29) ?hr ?_; (case hd => rfl); (case hg => rfl); (case hr => first | (go_simp; done) | (go_simp; rfl)); intro gb862 hg w17 hbox hb; have BK862 := Aside0.mk (hbox); have GW862 := Aside0.mk (bs HB hg : w.heap.size ≤ gb862); replace HB := Aside0.mk (below_step (bw HB) hb); clear hb hbox hg) | ((with_reducible refine gate_dst (N := 4) rfl ?_); refine box_event ?hg (N := 4) ?hd (cs := #[.int .i64 0, .int .i64 0]) (t := 29) ?hr ?_; (case hd => rfl); (case hg => rfl); (case hr => first | (go_simp; done) | (go_simp; rfl)); intro gb863 hg w18 hbox hb; have BK863 := Aside0.mk (hbox); have GW863 := Aside0.mk (bs HB hg : w.heap.size ≤ gb863); replace HB := Aside0.mk (below_step (bw HB) hb); have NB862_863 := Aside0.mk (nl BK862 hg); have NB863_862 := Aside0.mk (ng BK862 hg); replace BK862 := Aside0.mk (bb BK862 hb); clear hb hbox hg; have hnb19 := NB862_863.out; have hnc19 := NB863_862.out; obtain ⟨hcz20_0, hcz20_1, hfz20_0, hfz20_1⟩ := cf2 BK862) | ((with_reducible refine gate_callee (f := 53) rfl ?_); refine goesL_ (some 13) rfl rfl Try.func53 (by kernel_rfl) rfl #[.int .i64 a0, .int .i64 0, .agg #[.int .i64 a1_0, .int .i64 a1_1], .agg #[.int .i64 0, .int .i64 0]] rfl (by (try simp only [List.map_toArray, List.map_cons, List.map_nil]); first | done | rfl | (simp only [List.length_drop, List.length_take]; rfl)) ?_; (with_reducible refine (environref02_right.calls k a0 0 a1_0 a1_1 0 0 t864 _ A8.out).mono ?_); rintro e w21 ⟨rfl, hb⟩; refine ⟨_, rfl, ?_⟩; replace BK862 := Aside0.mk (bb BK862 hb); replace BK863 := Aside0.mk (bb BK863 hb); replace HB := Aside0.mk (below_step (bw HB) hb); (try clear hb); (try clear hb2); (try clear hk); (try clear hi); obtain ⟨hcz22_0, hcz22_1, hfz22_0, hfz22_1⟩ := cf2 BK863))
   refine bodyPost_ret (results_ct rfl _ _ gb863 29 #[.int .i64 0, .int .i64 0] (0, 0) _ rfl (by (with_reducible repeat (first | refine blk_drewN ?_ _ | refine blk_drew ?_ | refine blk_alloc ?_ _)); refine blk_put (cs := #[.int .i64 0, .int .i64 0]) ?_ 1 _ rfl; (with_reducible repeat (first | refine blk_drewN ?_ _ | refine blk_drew ?_ | refine blk_alloc ?_ _)); refine blk_put (cs := #[.int .i64 0, .int .i64 0]) ?_ 0 _ rfl; (with_reducible repeat (first | refine blk_drewN ?_ _ | refine blk_drew ?_ | refine blk_alloc ?_ _)); exact BK863.out) Try.underlying29 rfl (by kernel_rfl)) rfl ?_
   exact ⟨by first | rfl | (simp [errW_none, errW_some] <;> rfl) | (simp [*, errW_none, errW_some] <;> rfl), bw HB⟩

/-! ### environref02_Shorten: function 45 -/
def environref02_Shorten.f (k : Nat) (a0 : Int) (a1 : Int) (a2_0 : Int) (a2_1 : Int) : Option (Int × Int × Int) := if a0 = (-1) then (some (0, 0, 1)) else ((environref02_right.f k a0 a1 a2_0 a2_1 0 0).bind fun t867 => (if t867 = 0 then ((environref02_Exactly.f k a2_0 a2_1).bind fun bt868 => ((environref02_Rounded.f k (wrap64 (a0 - 1)) a1 bt868.1 bt868.2.1 bt868.2.2.1 bt868.2.2.2).bind fun bt874 => (some (bt874.1, bt874.2.1, bt874.2.2)))) else (some (0, 0, t867))))
theorem environref02_Shorten.mono : ∀ a0 a1 a2 a3 k, LeO (environref02_Shorten.f k a0 a1 a2 a3) (environref02_Shorten.f (k + 1) a0 a1 a2 a3) := by
 intro a0 a1 a2 a3 k
 unfold environref02_Shorten.f
 repeat' first
   | (with_reducible exact environref02_Exactly.mono _ _ _)
   | (with_reducible exact environref02_Rounded.mono _ _ _ _ _ _ _)
   | (with_reducible exact environref02_right.mono _ _ _ _ _ _ _)
   | (with_reducible exact LeO.refl _)
   | (with_reducible exact LeO.none _)
   | (with_reducible refine LeO.ite ?_ ?_)
   | (with_reducible refine LeO.bind ?_ (fun _ => ?_))
   | exact environref02_Exactly.mono _ _ _
   | exact environref02_Rounded.mono _ _ _ _ _ _ _
   | exact environref02_right.mono _ _ _ _ _ _ _
   | exact LeO.none _
   | refine LeO.ite ?_ ?_
   | refine LeO.bind ?_ (fun _ => ?_)
set_option maxHeartbeats 8000000 in
set_option maxRecDepth 100000 in
theorem environref02_Shorten.calls (k : Nat) (a0 : Int) (a1 : Int) (a2_0 : Int) (a2_1 : Int) (r1 : Int) (r2 : Int) (r3 : Int) (w : World) (h : environref02_Shorten.f k a0 a1 a2_0 a2_1 = some (r1, r2, r3)) :
  Calls Try.prog 45 #[.int .i64 a0, .int .i64 a1, .agg #[.int .i64 a2_0, .int .i64 a2_1]] w fun e w' => e = .returned (.tuple #[.agg #[.int .i64 r1, .int .i64 r2], .int .i64 r3]) ∧ Below w.heap.size w w' := by
 have hu29 := Try.underlying29
 have HB := Aside0.mk (Below.refl w.heap.size w)
 have H : (if a0 = (-1) then (some (0, 0, 1)) else ((environref02_right.f k a0 a1 a2_0 a2_1 0 0).bind fun t867 => (if t867 = 0 then ((environref02_Exactly.f k a2_0 a2_1).bind fun bt868 => ((environref02_Rounded.f k (wrap64 (a0 - 1)) a1 bt868.1 bt868.2.1 bt868.2.2.1 bt868.2.2.2).bind fun bt874 => (some (bt874.1, bt874.2.1, bt874.2.2)))) else (some (0, 0, t867))))) = some (r1, r2, r3) := h
 clear h
 by_cases c4 : a0 = (-1)
 ·rw [if_pos c4] at H
  have c4b0 : (a0 == (-1)) = true := beq_iff_eq.mpr c4
  have c4b1 : (a0 != (-1)) = false := bne_eq_false_iff_eq.mpr c4
  clear c4
  simp only [Option.some.injEq, Prod.mk.injEq] at H
  obtain ⟨rfl, rfl, rfl⟩ := H
  go_enter Try.func45, Try.ntmps45
  go_wp2_with (first | ((with_reducible refine gate_dst (N := 5) rfl ?_); refine box_event ?hg (N := 5) ?hd (cs := #[.int .i64 a2_0, .int .i64 a2_1]) (t := 29) ?hr ?_; (case hd => rfl); (case hg => rfl); (case hr => first | (go_simp; done) | (go_simp; rfl)); intro gb865 hg w5 hbox hb; have BK865 := Aside0.mk (hbox); have GW865 := Aside0.mk (bs HB hg : w.heap.size ≤ gb865); replace HB := Aside0.mk (below_step (bw HB) hb); clear hb hbox hg) | ((with_reducible refine gate_dst (N := 6) rfl ?_); refine box_event ?hg (N := 6) ?hd (cs := #[.int .i64 0, .int .i64 0]) (t := 29) ?hr ?_; (case hd => rfl); (case hg => rfl); (case hr => first | (go_simp; done) | (go_simp; rfl)); intro gb866 hg w6 hbox hb; have BK866 := Aside0.mk (hbox); have GW866 := Aside0.mk (bs HB hg : w.heap.size ≤ gb866); replace HB := Aside0.mk (below_step (bw HB) hb); have NB865_866 := Aside0.mk (nl BK865 hg); have NB866_865 := Aside0.mk (ng BK865 hg); replace BK865 := Aside0.mk (bb BK865 hb); clear hb hbox hg; have hnb7 := NB866_865.out; have hnc7 := NB865_866.out; obtain ⟨hcz8_0, hcz8_1, hfz8_0, hfz8_1⟩ := cf2 BK866))
  refine bodyPost_ret (results_ct rfl _ _ gb866 29 #[.int .i64 0, .int .i64 0] (0, 0) _ rfl (by (with_reducible repeat (first | refine blk_drewN ?_ _ | refine blk_drew ?_ | refine blk_alloc ?_ _)); refine blk_put (cs := #[.int .i64 0, .int .i64 0]) ?_ 1 _ rfl; (with_reducible repeat (first | refine blk_drewN ?_ _ | refine blk_drew ?_ | refine blk_alloc ?_ _)); refine blk_put (cs := #[.int .i64 0, .int .i64 0]) ?_ 0 _ rfl; (with_reducible repeat (first | refine blk_drewN ?_ _ | refine blk_drew ?_ | refine blk_alloc ?_ _)); exact BK866.out) Try.underlying29 rfl (by kernel_rfl)) rfl ?_
  exact ⟨by first | rfl | (simp [errW_none, errW_some] <;> rfl) | (simp [*, errW_none, errW_some] <;> rfl), bw HB⟩
 ·rw [if_neg c4] at H
  have c4b0 : (a0 == (-1)) = false := beq_eq_false_iff_ne.mpr c4
  have c4b1 : (a0 != (-1)) = true := bne_iff_ne.mpr c4
  replace H := Option.bind_eq_some_iff.mp H
  obtain ⟨t867, A90, H⟩ := H
  replace H : (if t867 = 0 then ((environref02_Exactly.f k a2_0 a2_1).bind fun bt868 => ((environref02_Rounded.f k (wrap64 (a0 - 1)) a1 bt868.1 bt868.2.1 bt868.2.2.1 bt868.2.2.2).bind fun bt874 => (some (bt874.1, bt874.2.1, bt874.2.2)))) else (some (0, 0, t867))) = some (r1, r2, r3) := H
  have A9 := Aside0.mk A90
  clear A90
  by_cases c10 : t867 = 0
  ·rw [if_pos c10] at H
   have c10b0 : (t867 == 0) = true := beq_iff_eq.mpr c10
   have c10b1 : (t867 != 0) = false := bne_eq_false_iff_eq.mpr c10
   clear c10
   replace H := Option.bind_eq_some_iff.mp H
   obtain ⟨⟨t868, t869, t872, t873⟩, A110, H⟩ := H
   replace H : ((environref02_Rounded.f k (wrap64 (a0 - 1)) a1 t868 t869 t872 t873).bind fun bt874 => (some (bt874.1, bt874.2.1, bt874.2.2))) = some (r1, r2, r3) := H
   have A11 := Aside0.mk A110
   clear A110
   replace H := Option.bind_eq_some_iff.mp H
   obtain ⟨⟨t874, t875, t876⟩, A120, H⟩ := H
   replace H : (some (t874, t875, t876)) = some (r1, r2, r3) := H
   have A12 := Aside0.mk A120
   clear A120
   simp only [Option.some.injEq, Prod.mk.injEq] at H
   obtain ⟨rfl, rfl, rfl⟩ := H
   go_enter Try.func45, Try.ntmps45
   go_wp2_with (first | ((with_reducible refine gate_dst (N := 5) rfl ?_); refine box_event ?hg (N := 5) ?hd (cs := #[.int .i64 a2_0, .int .i64 a2_1]) (t := 29) ?hr ?_; (case hd => rfl); (case hg => rfl); (case hr => first | (go_simp; done) | (go_simp; rfl)); intro gb865 hg w13 hbox hb; have BK865 := Aside0.mk (hbox); have GW865 := Aside0.mk (bs HB hg : w.heap.size ≤ gb865); replace HB := Aside0.mk (below_step (bw HB) hb); clear hb hbox hg) | ((with_reducible refine gate_dst (N := 6) rfl ?_); refine box_event ?hg (N := 6) ?hd (cs := #[.int .i64 0, .int .i64 0]) (t := 29) ?hr ?_; (case hd => rfl); (case hg => rfl); (case hr => first | (go_simp; done) | (go_simp; rfl)); intro gb866 hg w14 hbox hb; have BK866 := Aside0.mk (hbox); have GW866 := Aside0.mk (bs HB hg : w.heap.size ≤ gb866); replace HB := Aside0.mk (below_step (bw HB) hb); have NB865_866 := Aside0.mk (nl BK865 hg); have NB866_865 := Aside0.mk (ng BK865 hg); replace BK865 := Aside0.mk (bb BK865 hb); clear hb hbox hg; have hnb15 := NB865_866.out; have hnc15 := NB866_865.out; obtain ⟨hcz16_0, hcz16_1, hfz16_0, hfz16_1⟩ := cf2 BK865) | ((with_reducible refine gate_callee (f := 53) rfl ?_); refine goesL_ (some 16) rfl rfl Try.func53 (by kernel_rfl) rfl #[.int .i64 a0, .int .i64 a1, .agg #[.int .i64 a2_0, .int .i64 a2_1], .agg #[.int .i64 0, .int .i64 0]] rfl (by (try simp only [List.map_toArray, List.map_cons, List.map_nil]); first | done | rfl | (simp only [List.length_drop, List.length_take]; rfl)) ?_; (with_reducible refine (environref02_right.calls k a0 a1 a2_0 a2_1 0 0 t867 _ A9.out).mono ?_); rintro e w17 ⟨rfl, hb⟩; refine ⟨_, rfl, ?_⟩; replace BK865 := Aside0.mk (bb BK865 hb); replace BK866 := Aside0.mk (bb BK866 hb); replace HB := Aside0.mk (below_step (bw HB) hb); (try clear hb); (try clear hb2); (try clear hk); (try clear hi); obtain ⟨hcz18_0, hcz18_1, hfz18_0, hfz18_1⟩ := cf2 BK865) | ((with_reducible refine gate_callee (f := 54) rfl ?_); refine goesL_ (some 25) rfl rfl Try.func54 (by kernel_rfl) rfl #[.agg #[.int .i64 a2_0, .int .i64 a2_1]] rfl (by (try simp only [List.map_toArray, List.map_cons, List.map_nil]); first | done | rfl | (simp only [List.length_drop, List.length_take]; rfl)) ?_; (with_reducible refine (environref02_Exactly.calls k a2_0 a2_1 t868 t869 t872 t873 _ A11.out).mono ?_); rintro e w19 ⟨v870, rfl, ho0, hb⟩; refine ⟨_, rfl, ?_⟩; have HO871 := Aside0.mk (Kd.R_lower ho0 (below_size (bw HB))); replace BK865 := Aside0.mk (bb BK865 hb); replace BK866 := Aside0.mk (bb BK866 hb); replace HB := Aside0.mk (below_step (bw HB) hb); (try clear hb); (try clear hb2); (try clear hk); (try clear hi); (try clear ho0); obtain ⟨Ao20, co20, eo20⟩ := Kd.R_slice HO871.out; subst eo20) | ((with_reducible refine gate_callee (f := 55) rfl ?_); refine goesL_ (some 26) rfl rfl Try.func55 (by kernel_rfl) rfl #[.int .i64 (wrap64 (a0 - 1)), .int .i64 a1, .agg #[.bool t868, .slice Ao20 t869.length co20, .int .i64 t872, .bool t873]] rfl (by (try simp only [List.map_toArray, List.map_cons, List.map_nil]); first | done | rfl | (simp only [List.length_drop, List.length_take]; rfl)) ?_; (with_reducible refine (environref02_Rounded.calls k (wrap64 (a0 - 1)) a1 t868 (fun k_ => some k_ = (.slice Ao20 t869.length co20 : Value).ownBlock) _ _ t869 t872 t873 t874 t875 t876 _ ?side1 A12.out).mono ?_); (case side1 => exact Kd.R_V (Kd.R_tight rfl (Kd.R_types (Kd.R_types (HO871.out) BK865.out (by decide)) BK866.out (by decide)))); rintro e w21 ⟨rfl, hb⟩; refine ⟨_, rfl, ?_⟩; replace HO871 := Aside0.mk (Kd.R_below (by (with_reducible repeat (first | apply Kd.R_alloc | apply Kd.R_drewN | apply Kd.R_drew)); exact HO871.out) hb); replace BK865 := Aside0.mk (bb BK865 hb); replace BK866 := Aside0.mk (bb BK866 hb); replace HB := Aside0.mk (below_step (bw HB) hb); (try clear hb); (try clear hb2); (try clear hk); (try clear hi); obtain ⟨hcz22_0, hcz22_1, hfz22_0, hfz22_1⟩ := cf2 BK866))
   refine bodyPost_ret (results_ct rfl _ _ gb866 29 #[.int .i64 t874, .int .i64 t875] (0, 0) _ rfl (by (with_reducible repeat (first | refine blk_drewN ?_ _ | refine blk_drew ?_ | refine blk_alloc ?_ _)); refine blk_put (cs := #[.int .i64 t874, .int .i64 0]) ?_ 1 _ rfl; (with_reducible repeat (first | refine blk_drewN ?_ _ | refine blk_drew ?_ | refine blk_alloc ?_ _)); refine blk_put (cs := #[.int .i64 0, .int .i64 0]) ?_ 0 _ rfl; (with_reducible repeat (first | refine blk_drewN ?_ _ | refine blk_drew ?_ | refine blk_alloc ?_ _)); exact BK866.out) Try.underlying29 rfl (by kernel_rfl)) rfl ?_
   exact ⟨by first | rfl | (simp [errW_none, errW_some] <;> rfl) | (simp [*, errW_none, errW_some] <;> rfl), bw HB⟩
  ·rw [if_neg c10] at H
   have c10b0 : (t867 == 0) = false := beq_eq_false_iff_ne.mpr c10
   have c10b1 : (t867 != 0) = true := bne_iff_ne.mpr c10
   simp only [Option.some.injEq, Prod.mk.injEq] at H
   obtain ⟨rfl, rfl, rfl⟩ := H
   go_enter Try.func45, Try.ntmps45
   go_wp2_with (first | ((with_reducible refine gate_dst (N := 5) rfl ?_); refine box_event ?hg (N := 5) ?hd (cs := #[.int .i64 a2_0, .int .i64 a2_1]) (t := 29) ?hr ?_; (case hd => rfl); (case hg => rfl); (case hr => first | (go_simp; done) | (go_simp; rfl)); intro gb865 hg w23 hbox hb; have BK865 := Aside0.mk (hbox); have GW865 := Aside0.mk (bs HB hg : w.heap.size ≤ gb865); replace HB := Aside0.mk (below_step (bw HB) hb); clear hb hbox hg) | ((with_reducible refine gate_dst (N := 6) rfl ?_); refine box_event ?hg (N := 6) ?hd (cs := #[.int .i64 0, .int .i64 0]) (t := 29) ?hr ?_; (case hd => rfl); (case hg => rfl); (case hr => first | (go_simp; done) | (go_simp; rfl)); intro gb866 hg w24 hbox hb; have BK866 := Aside0.mk (hbox); have GW866 := Aside0.mk (bs HB hg : w.heap.size ≤ gb866); replace HB := Aside0.mk (below_step (bw HB) hb); have NB865_866 := Aside0.mk (nl BK865 hg); have NB866_865 := Aside0.mk (ng BK865 hg); replace BK865 := Aside0.mk (bb BK865 hb); clear hb hbox hg; have hnb25 := NB865_866.out; have hnc25 := NB866_865.out; obtain ⟨hcz26_0, hcz26_1, hfz26_0, hfz26_1⟩ := cf2 BK865) | ((with_reducible refine gate_callee (f := 53) rfl ?_); refine goesL_ (some 16) rfl rfl Try.func53 (by kernel_rfl) rfl #[.int .i64 a0, .int .i64 a1, .agg #[.int .i64 a2_0, .int .i64 a2_1], .agg #[.int .i64 0, .int .i64 0]] rfl (by (try simp only [List.map_toArray, List.map_cons, List.map_nil]); first | done | rfl | (simp only [List.length_drop, List.length_take]; rfl)) ?_; (with_reducible refine (environref02_right.calls k a0 a1 a2_0 a2_1 0 0 t867 _ A9.out).mono ?_); rintro e w27 ⟨rfl, hb⟩; refine ⟨_, rfl, ?_⟩; replace BK865 := Aside0.mk (bb BK865 hb); replace BK866 := Aside0.mk (bb BK866 hb); replace HB := Aside0.mk (below_step (bw HB) hb); (try clear hb); (try clear hb2); (try clear hk); (try clear hi); obtain ⟨hcz28_0, hcz28_1, hfz28_0, hfz28_1⟩ := cf2 BK866))
   refine bodyPost_ret (results_ct rfl _ _ gb866 29 #[.int .i64 0, .int .i64 0] (0, 0) _ rfl (by (with_reducible repeat (first | refine blk_drewN ?_ _ | refine blk_drew ?_ | refine blk_alloc ?_ _)); refine blk_put (cs := #[.int .i64 0, .int .i64 0]) ?_ 1 _ rfl; (with_reducible repeat (first | refine blk_drewN ?_ _ | refine blk_drew ?_ | refine blk_alloc ?_ _)); refine blk_put (cs := #[.int .i64 0, .int .i64 0]) ?_ 0 _ rfl; (with_reducible repeat (first | refine blk_drewN ?_ _ | refine blk_drew ?_ | refine blk_alloc ?_ _)); exact BK866.out) Try.underlying29 rfl (by kernel_rfl)) rfl ?_
   exact ⟨by first | rfl | (simp [errW_none, errW_some] <;> rfl) | (simp [*, errW_none, errW_some] <;> rfl), bw HB⟩

-- NOT PRINTED: function 10 (environlaw02_RealsIntegers)
end Go.Proofs.Ytamkjpjibkabaaa.PR
