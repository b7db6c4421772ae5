-- written by a program of this session out of the kit's print (its words and its form)
import Derived.Test.YtamkjpjibkabaaaPRsq
import Derived.Test.YtamkjpjibkabaaaPRx0
namespace Go.Proofs.Ytamkjpjibkabaaa.PR
open Go.RowKit Go.Proofs.YtamkjpjibkabaaaW.PrintWords Go.Proofs.YtamkjpjibkabaaaW.PrintLast Go.Proofs.YtamkjpjibkabaaaW.PrintMore
attribute [local go_sem] max2_int min2_int max_two min_two max_three min_three max_four min_four   -- for this text's walks alone
set_option linter.unusedVariables false
set_option linter.unusedSimpArgs false

/-! ### ints_of: function 99 -/
def ints_of.f (a0 : Int) : Option (Int × Int × Int) := if a0 = (-1) then (some (32767, 16, 0)) else (if a0 = 0 then (some (2147483647, 32, 0)) else (if a0 = 1 then (some (999999999999999999, 60, 0)) else (some (0, 0, 1))))
set_option maxHeartbeats 8000000 in
set_option maxRecDepth 100000 in
theorem ints_of.calls (a0 : Int) (r1 : Int) (r2 : Int) (r3 : Int) (w : World) (h : ints_of.f a0 = some (r1, r2, r3)) :
  Calls Try.prog 99 #[.int .i64 a0] w fun e w' => e = .returned (.tuple #[.agg #[.int .i64 r1, .int .i64 r2], .int .i64 r3]) ∧ Below w.heap.size w w' := by
 have hu112 := Try.underlying112
 have HB := Aside0.mk (Below.refl w.heap.size w)
 have H : (if a0 = (-1) then (some (32767, 16, 0)) else (if a0 = 0 then (some (2147483647, 32, 0)) else (if a0 = 1 then (some (999999999999999999, 60, 0)) else (some (0, 0, 1))))) = some (r1, r2, r3) := h
 clear h
 by_cases c2 : a0 = (-1)
 ·rw [if_pos c2] at H
  have c2b0 : (a0 == (-1)) = true := beq_iff_eq.mpr c2
  have c2b1 : (a0 != (-1)) = false := bne_eq_false_iff_eq.mpr c2
  clear c2
  simp only [Option.some.injEq, Prod.mk.injEq] at H
  obtain ⟨rfl, rfl, rfl⟩ := H
  go_enter Try.func99, Try.ntmps99
  go_wp2_with (first | ((with_reducible refine gate_dst (N := 2) rfl ?_); refine box_event ?hg (N := 2) ?hd (cs := #[.int .i64 0, .int .i64 0]) (t := 112) ?hr ?_; (case hd => rfl); (case hg => rfl); (case hr => first | (go_simp; done) | (go_simp; rfl)); intro gb788 hg w3 hbox hb; have BK788 := Aside0.mk (hbox); have GW788 := Aside0.mk (bs HB hg : w.heap.size ≤ gb788); replace HB := Aside0.mk (below_step (bw HB) hb); clear hb hbox hg; obtain ⟨hcz4_0, hcz4_1, hfz4_0, hfz4_1⟩ := cf2 BK788))
  refine bodyPost_ret (results_ct rfl _ _ gb788 112 #[.int .i64 32767, .int .i64 16] (0, 0) _ rfl (by (with_reducible repeat (first | refine blk_drewN ?_ _ | refine blk_drew ?_ | refine blk_alloc ?_ _)); refine blk_put (cs := #[.int .i64 32767, .int .i64 0]) ?_ 1 _ rfl; (with_reducible repeat (first | refine blk_drewN ?_ _ | refine blk_drew ?_ | refine blk_alloc ?_ _)); refine blk_put (cs := #[.int .i64 0, .int .i64 0]) ?_ 0 _ rfl; (with_reducible repeat (first | refine blk_drewN ?_ _ | refine blk_drew ?_ | refine blk_alloc ?_ _)); exact BK788.out) Try.underlying112 rfl (by kernel_rfl)) rfl ?_
  exact ⟨by first | rfl | (simp [errW_none, errW_some] <;> rfl) | (simp [*, errW_none, errW_some] <;> rfl), bw HB⟩
 ·rw [if_neg c2] at H
  have c2b0 : (a0 == (-1)) = false := beq_eq_false_iff_ne.mpr c2
  have c2b1 : (a0 != (-1)) = true := bne_iff_ne.mpr c2
  by_cases c5 : a0 = 0
  ·rw [if_pos c5] at H
   have c5b0 : (a0 == 0) = true := beq_iff_eq.mpr c5
   have c5b1 : (a0 != 0) = false := bne_eq_false_iff_eq.mpr c5
   clear c5
   simp only [Option.some.injEq, Prod.mk.injEq] at H
   obtain ⟨rfl, rfl, rfl⟩ := H
   go_enter Try.func99, Try.ntmps99
   go_wp2_with (first | ((with_reducible refine gate_dst (N := 2) rfl ?_); refine box_event ?hg (N := 2) ?hd (cs := #[.int .i64 0, .int .i64 0]) (t := 112) ?hr ?_; (case hd => rfl); (case hg => rfl); (case hr => first | (go_simp; done) | (go_simp; rfl)); intro gb788 hg w6 hbox hb; have BK788 := Aside0.mk (hbox); have GW788 := Aside0.mk (bs HB hg : w.heap.size ≤ gb788); replace HB := Aside0.mk (below_step (bw HB) hb); clear hb hbox hg; obtain ⟨hcz7_0, hcz7_1, hfz7_0, hfz7_1⟩ := cf2 BK788))
   refine bodyPost_ret (results_ct rfl _ _ gb788 112 #[.int .i64 2147483647, .int .i64 32] (0, 0) _ rfl (by (with_reducible repeat (first | refine blk_drewN ?_ _ | refine blk_drew ?_ | refine blk_alloc ?_ _)); refine blk_put (cs := #[.int .i64 2147483647, .int .i64 0]) ?_ 1 _ rfl; (with_reducible repeat (first | refine blk_drewN ?_ _ | refine blk_drew ?_ | refine blk_alloc ?_ _)); refine blk_put (cs := #[.int .i64 0, .int .i64 0]) ?_ 0 _ rfl; (with_reducible repeat (first | refine blk_drewN ?_ _ | refine blk_drew ?_ | refine blk_alloc ?_ _)); exact BK788.out) Try.underlying112 rfl (by kernel_rfl)) rfl ?_
   exact ⟨by first | rfl | (simp [errW_none, errW_some] <;> rfl) | (simp [*, errW_none, errW_some] <;> rfl), bw HB⟩
  ·rw [if_neg c5] at H
   have c5b0 : (a0 == 0) = false := beq_eq_false_iff_ne.mpr c5
   have c5b1 : (a0 != 0) = true := bne_iff_ne.mpr c5
   by_cases c8 : a0 = 1
   ·rw [if_pos c8] at H
    have c8b0 : (a0 == 1) = true := beq_iff_eq.mpr c8
    have c8b1 : (a0 != 1) = false := bne_eq_false_iff_eq.mpr c8
    clear c8
    simp only [Option.some.injEq, Prod.mk.injEq] at H
    obtain ⟨rfl, rfl, rfl⟩ := H
    go_enter Try.func99, Try.ntmps99
    go_wp2_with (first | ((with_reducible refine gate_dst (N := 2) rfl ?_); refine box_event ?hg (N := 2) ?hd (cs := #[.int .i64 0, .int .i64 0]) (t := 112) ?hr ?_; (case hd => rfl); (case hg => rfl); (case hr => first | (go_simp; done) | (go_simp; rfl)); intro gb788 hg w9 hbox hb; have BK788 := Aside0.mk (hbox); have GW788 := Aside0.mk (bs HB hg : w.heap.size ≤ gb788); replace HB := Aside0.mk (below_step (bw HB) hb); clear hb hbox hg; obtain ⟨hcz10_0, hcz10_1, hfz10_0, hfz10_1⟩ := cf2 BK788))
    refine bodyPost_ret (results_ct rfl _ _ gb788 112 #[.int .i64 999999999999999999, .int .i64 60] (0, 0) _ rfl (by (with_reducible repeat (first | refine blk_drewN ?_ _ | refine blk_drew ?_ | refine blk_alloc ?_ _)); refine blk_put (cs := #[.int .i64 999999999999999999, .int .i64 0]) ?_ 1 _ rfl; (with_reducible repeat (first | refine blk_drewN ?_ _ | refine blk_drew ?_ | refine blk_alloc ?_ _)); refine blk_put (cs := #[.int .i64 0, .int .i64 0]) ?_ 0 _ rfl; (with_reducible repeat (first | refine blk_drewN ?_ _ | refine blk_drew ?_ | refine blk_alloc ?_ _)); exact BK788.out) Try.underlying112 rfl (by kernel_rfl)) rfl ?_
    exact ⟨by first | rfl | (simp [errW_none, errW_some] <;> rfl) | (simp [*, errW_none, errW_some] <;> rfl), bw HB⟩
   ·rw [if_neg c8] at H
    have c8b0 : (a0 == 1) = false := beq_eq_false_iff_ne.mpr c8
    have c8b1 : (a0 != 1) = true := bne_iff_ne.mpr c8
    simp only [Option.some.injEq, Prod.mk.injEq] at H
    obtain ⟨rfl, rfl, rfl⟩ := H
    go_enter Try.func99, Try.ntmps99
    go_wp2_with (first | ((with_reducible refine gate_dst (N := 2) rfl ?_); refine box_event ?hg (N := 2) ?hd (cs := #[.int .i64 0, .int .i64 0]) (t := 112) ?hr ?_; (case hd => rfl); (case hg => rfl); (case hr => first | (go_simp; done) | (go_simp; rfl)); intro gb788 hg w11 hbox hb; have BK788 := Aside0.mk (hbox); have GW788 := Aside0.mk (bs HB hg : w.heap.size ≤ gb788); replace HB := Aside0.mk (below_step (bw HB) hb); clear hb hbox hg; obtain ⟨hcz12_0, hcz12_1, hfz12_0, hfz12_1⟩ := cf2 BK788))
    refine bodyPost_ret (results_ct rfl _ _ gb788 112 #[.int .i64 0, .int .i64 0] (0, 0) _ rfl (by (with_reducible repeat (first | refine blk_drewN ?_ _ | refine blk_drew ?_ | refine blk_alloc ?_ _)); refine blk_put (cs := #[.int .i64 0, .int .i64 0]) ?_ 1 _ rfl; (with_reducible repeat (first | refine blk_drewN ?_ _ | refine blk_drew ?_ | refine blk_alloc ?_ _)); refine blk_put (cs := #[.int .i64 0, .int .i64 0]) ?_ 0 _ rfl; (with_reducible repeat (first | refine blk_drewN ?_ _ | refine blk_drew ?_ | refine blk_alloc ?_ _)); exact BK788.out) Try.underlying112 rfl (by kernel_rfl)) rfl ?_
    exact ⟨by first | rfl | (simp [errW_none, errW_some] <;> rfl) | (simp [*, errW_none, errW_some] <;> rfl), bw HB⟩

/-! ### ints_length_has: function 100 -/
def ints_length_has.f (a0_0 : Int) (a0_1 : Int) (a1 : Int) : Option (Bool) := if (wrap64 (-a0_0)) ≤ a1 then (some (decide (a1 ≤ a0_0))) else (some false)
set_option maxHeartbeats 8000000 in
set_option maxRecDepth 100000 in
theorem ints_length_has.calls (a0_0 : Int) (a0_1 : Int) (a1 : Int) (r : Bool) (w : World) (h : ints_length_has.f a0_0 a0_1 a1 = some r) :
  Calls Try.prog 100 #[.agg #[.int .i64 a0_0, .int .i64 a0_1], .int .i64 a1] w fun e w' => e = .returned (.bool r) ∧ Below w.heap.size w w' := by
 have hu112 := Try.underlying112
 have HB := Aside0.mk (Below.refl w.heap.size w)
 have H : (if (wrap64 (-a0_0)) ≤ a1 then (some (decide (a1 ≤ a0_0))) else (some false)) = some r := h
 clear h
 by_cases c3 : (wrap64 (-a0_0)) ≤ a1
 ·rw [if_pos c3] at H
  have c3b0 : decide ((wrap64 (-a0_0)) ≤ a1) = true := decide_eq_true c3
  clear c3
  obtain rfl := Option.some.inj H
  go_enter Try.func100, Try.ntmps100
  go_wp2_with (first | ((with_reducible refine gate_dst (N := 2) rfl ?_); refine box_event ?hg (N := 2) ?hd (cs := #[.int .i64 a0_0, .int .i64 a0_1]) (t := 112) ?hr ?_; (case hd => rfl); (case hg => rfl); (case hr => first | (go_simp; done) | (go_simp; rfl)); intro gb789 hg w4 hbox hb; have BK789 := Aside0.mk (hbox); have GW789 := Aside0.mk (bs HB hg : w.heap.size ≤ gb789); replace HB := Aside0.mk (below_step (bw HB) hb); clear hb hbox hg; obtain ⟨hcz5_0, hcz5_1, hfz5_0, hfz5_1⟩ := cf2 BK789))
  go_ret
  exact ⟨by first | rfl | (simp [errW_none, errW_some] <;> rfl) | (simp [*, errW_none, errW_some] <;> rfl), bw HB⟩
 ·rw [if_neg c3] at H
  have c3b0 : decide ((wrap64 (-a0_0)) ≤ a1) = false := decide_eq_false c3
  clear c3
  obtain rfl := Option.some.inj H
  go_enter Try.func100, Try.ntmps100
  go_wp2_with (first | ((with_reducible refine gate_dst (N := 2) rfl ?_); refine box_event ?hg (N := 2) ?hd (cs := #[.int .i64 a0_0, .int .i64 a0_1]) (t := 112) ?hr ?_; (case hd => rfl); (case hg => rfl); (case hr => first | (go_simp; done) | (go_simp; rfl)); intro gb789 hg w6 hbox hb; have BK789 := Aside0.mk (hbox); have GW789 := Aside0.mk (bs HB hg : w.heap.size ≤ gb789); replace HB := Aside0.mk (below_step (bw HB) hb); clear hb hbox hg; obtain ⟨hcz7_0, hcz7_1, hfz7_0, hfz7_1⟩ := cf2 BK789))
  go_ret
  exact ⟨by first | rfl | (simp [errW_none, errW_some] <;> rfl) | (simp [*, errW_none, errW_some] <;> rfl), bw HB⟩

/-! ### ints_ints: function 98 -/
def ints_ints.l0 : Nat → Int → List Int → Int → Int → Int → Int → Option (Int × Int × Int)
 | 0, _, _, _, _, _, _ => none
 | k + 1, x7, x15, x16, x17, x795000, x795001 => if x17 < x16 then (if 0 ≤ x17 then (if x17 < (x15.length : Int) then (if x7 = 0 then ((ints_length_has.f x795000 x795001 (rd x15 x17)).bind fun t796 => (if t796 = true then (ints_ints.l0 k x7 x15 x16 (wrap64 (x17 + 1)) x795000 x795001) else (ints_ints.l0 k 11 x15 x16 (wrap64 (x17 + 1)) x795000 x795001))) else (ints_ints.l0 k x7 x15 x16 (wrap64 (x17 + 1)) x795000 x795001)) else (none)) else (none)) else (some (x795000, x795001, x7))
def ints_ints.f (k : Nat) (a0 : Int) (l1 : List Int) : Option (Int × Int × Int) := (ints_of.f a0).bind fun bt791 => (ints_ints.l0 k bt791.2.2 l1 (l1.length : Int) 0 bt791.1 bt791.2.1)
theorem ints_ints.mono_l : ∀ k, (∀ y0 y1 y2 y3 y4 y5, LeO (ints_ints.l0 k y0 y1 y2 y3 y4 y5) (ints_ints.l0 (k + 1) y0 y1 y2 y3 y4 y5))
 | 0 => fun _ _ _ _ _ _ r h => by simp [ints_ints.l0] at h
 | k + 1 => by
  have ih0 := ints_ints.mono_l k
  ·intro y0 y1 y2 y3 y4 y5
   unfold ints_ints.l0
   repeat' first
   | (with_reducible exact ih0 _ _ _ _ _ _)
   | (with_reducible exact LeO.refl _)
   | (with_reducible exact LeO.none _)
   | (with_reducible refine LeO.ite ?_ ?_)
   | (with_reducible refine LeO.bind ?_ (fun _ => ?_))
   | exact ih0 _ _ _ _ _ _
   | exact LeO.none _
   | refine LeO.ite ?_ ?_
   | refine LeO.bind ?_ (fun _ => ?_)
theorem ints_ints.mono : ∀ a0 a1 k, LeO (ints_ints.f k a0 a1) (ints_ints.f (k + 1) a0 a1) := by
 intro a0 a1 k
 have ih0 := ints_ints.mono_l k
 unfold ints_ints.f
 repeat' first
   | (with_reducible exact ih0 _ _ _ _ _ _)
   | (with_reducible exact LeO.refl _)
   | (with_reducible exact LeO.none _)
   | (with_reducible refine LeO.ite ?_ ?_)
   | (with_reducible refine LeO.bind ?_ (fun _ => ?_))
   | exact ih0 _ _ _ _ _ _
   | exact LeO.none _
   | refine LeO.ite ?_ ?_
   | refine LeO.bind ?_ (fun _ => ?_)
set_option maxHeartbeats 8000000 in
set_option maxRecDepth 100000 in
theorem ints_ints.calls (k : Nat) (a0 : Int) (A1 : Option Addr) (c1 : Nat) (l1 : List Int) (r1 : Int) (r2 : Int) (r3 : Int) (w : World) (hr1 : Kd.C (Kd.int .i64) w A1 l1.length l1) (hc1 : l1.length ≤ c1) (h : ints_ints.f k a0 l1 = some (r1, r2, r3)) :
  Calls Try.prog 98 #[.int .i64 a0, .slice A1 l1.length c1] w fun e w' => e = .returned (.tuple #[.agg #[.int .i64 r1, .int .i64 r2], .int .i64 r3]) ∧ Below w.heap.size w w' := by
 have hu112 := Try.underlying112
 have HR1 := Aside0.mk hr1
 have HC1 := Aside0.mk hc1
 clear hr1 hc1
 have HB := Aside0.mk (Below.refl w.heap.size w)
 have H : ((ints_of.f a0).bind fun bt791 => (ints_ints.l0 k bt791.2.2 l1 (l1.length : Int) 0 bt791.1 bt791.2.1)) = some (r1, r2, r3) := h
 clear h
 replace H := Option.bind_eq_some_iff.mp H
 obtain ⟨⟨t791, t792, t793⟩, A30, H⟩ := H
 replace H : (ints_ints.l0 k t793 l1 (l1.length : Int) 0 t791 t792) = some (r1, r2, r3) := H
 have A3 := Aside0.mk A30
 clear A30
 have H' := Aside0.mk H
 clear H
 go_enter Try.func98, Try.ntmps98
 go_wp2_with (first | ((with_reducible refine gate_dst (N := 4) rfl ?_); refine box_event ?hg (N := 4) ?hd (cs := #[.int .i64 0, .int .i64 0]) (t := 112) ?hr ?_; (case hd => rfl); (case hg => rfl); (case hr => first | (go_simp; done) | (go_simp; rfl)); intro gb790 hg w4 hbox hb; have BK790 := Aside0.mk (hbox); have GW790 := Aside0.mk (bs HB hg : w.heap.size ≤ gb790); replace HB := Aside0.mk (below_step (bw HB) hb); clear hb hbox hg) | ((with_reducible refine gate_callee (f := 99) rfl ?_); refine goesL_ (some 12) rfl rfl Try.func99 (by kernel_rfl) rfl #[.int .i64 a0] rfl (by (try simp only [List.map_toArray, List.map_cons, List.map_nil]); first | done | rfl | (simp only [List.length_drop, List.length_take]; rfl)) ?_; (with_reducible refine (ints_of.calls a0 t791 t792 t793 _ A3.out).mono ?_); rintro e w5 ⟨rfl, hb⟩; refine ⟨_, rfl, ?_⟩; replace BK790 := Aside0.mk (bb BK790 hb); replace HB := Aside0.mk (below_step (bw HB) hb); (try clear hb); (try clear hb2); (try clear hk); (try clear hi)) | ((with_reducible refine gate_dst (N := 6) rfl ?_); refine box_event ?hg (N := 6) ?hd (cs := #[.int .i64 0, .int .i64 0]) (t := 112) ?hr ?_; (case hd => rfl); (case hg => rfl); (case hr => first | (go_simp; done) | (go_simp; rfl)); intro gb794 hg w6 hbox hb; have BK794 := Aside0.mk (hbox); have GW794 := Aside0.mk (bs HB hg : w.heap.size ≤ gb794); replace HB := Aside0.mk (below_step (bw HB) hb); have NB790_794 := Aside0.mk (nl BK790 hg); have NB794_790 := Aside0.mk (ng BK790 hg); replace BK790 := Aside0.mk (bb BK790 hb); clear hb hbox hg; have hnb7 := NB794_790.out; have hnc7 := NB790_794.out; obtain ⟨hcz8_0, hcz8_1, hfz8_0, hfz8_1⟩ := cf2 BK794))
 go_loopg [7, 17] k (fun kq v7 v17 w' => ∃ (x7_1 : Int) (x17_1 : Int), v7 = .int .i64 x7_1 ∧ v17 = .int .i64 x17_1 ∧ Aside0 (ints_ints.l0 kq x7_1 l1 (l1.length : Int) x17_1 t791 t792 = some (r1, r2, r3)) ∧ Aside0 (kq ≤ k) ∧ Aside0 (w'.heap[gb790]? = some (.cells #[.int .i64 0, .int .i64 0] 112 (0, 0))) ∧ Aside0 (w'.heap[gb794]? = some (.cells #[.int .i64 t791, .int .i64 t792] 112 (0, 0))) ∧ Aside0 (Below w.heap.size w w'))
 case atStart => exact ⟨(t793), (0), (by first | rfl | (simp; done) | (simp [*]; done)), (by first | rfl | (simp; done) | (simp [*]; done)), H', ⟨Nat.le_refl _⟩, ⟨by (with_reducible repeat (first | refine blk_drewN ?_ _ | refine blk_drew ?_ | refine blk_alloc ?_ _)); refine blk_far ?_ NB790_794.out _; (with_reducible repeat (first | refine blk_drewN ?_ _ | refine blk_drew ?_ | refine blk_alloc ?_ _)); refine blk_far ?_ NB790_794.out _; (with_reducible repeat (first | refine blk_drewN ?_ _ | refine blk_drew ?_ | refine blk_alloc ?_ _)); exact BK790.out⟩, ⟨by (with_reducible repeat (first | refine blk_drewN ?_ _ | refine blk_drew ?_ | refine blk_alloc ?_ _)); refine blk_put (cs := #[.int .i64 t791, .int .i64 0]) ?_ 1 _ rfl; (with_reducible repeat (first | refine blk_drewN ?_ _ | refine blk_drew ?_ | refine blk_alloc ?_ _)); refine blk_put (cs := #[.int .i64 0, .int .i64 0]) ?_ 0 _ rfl; (with_reducible repeat (first | refine blk_drewN ?_ _ | refine blk_drew ?_ | refine blk_alloc ?_ _)); exact BK794.out⟩, ⟨bw HB⟩⟩
 case round =>
  clear H'
  try clear c1
  try clear p2
  try clear c7
  try clear hcz8_0
  try clear hcz8_1
  try clear hfz8_0
  try clear hfz8_1
  obtain ⟨x7_1, x17_1, rfl, rfl, HA, HK1, BK790, BK794, HB⟩ := hrel
  cases gk with
  | zero => exact absurd HA.out (by simp [ints_ints.l0])
  | succ k1 =>
   have H := HA.out
   clear HA
   simp only [ints_ints.l0] at H
   by_cases c9 : x17_1 < (l1.length : Int)
   ·rw [if_pos c9] at H
    have c9b0 : decide (x17_1 < (l1.length : Int)) = true := decide_eq_true c9
    clear c9
    by_cases c10 : 0 ≤ x17_1
    ·rw [if_pos c10] at H
     have c10b0 : decide (0 ≤ x17_1) = true := decide_eq_true c10
     clear c10
     by_cases c11 : x17_1 < (l1.length : Int)
     ·rw [if_pos c11] at H
      have c11b0 : decide (x17_1 < (l1.length : Int)) = true := decide_eq_true c11
      clear c11
      by_cases c12 : x7_1 = 0
      ·rw [if_pos c12] at H
       have c12b0 : (x7_1 == 0) = true := beq_iff_eq.mpr c12
       have c12b1 : (x7_1 != 0) = false := bne_eq_false_iff_eq.mpr c12
       clear c12
       replace H := Option.bind_eq_some_iff.mp H
       obtain ⟨t796, A130, H⟩ := H
       replace H : (if t796 = true then (ints_ints.l0 k1 x7_1 l1 (l1.length : Int) (wrap64 (x17_1 + 1)) t791 t792) else (ints_ints.l0 k1 11 l1 (l1.length : Int) (wrap64 (x17_1 + 1)) t791 t792)) = some (r1, r2, r3) := H
       have A13 := Aside0.mk A130
       clear A130
       by_cases c14 : t796 = true
       ·subst c14
        have H1 : (ints_ints.l0 k1 x7_1 l1 (l1.length : Int) (wrap64 (x17_1 + 1)) t791 t792) = some (r1, r2, r3) := by rw [if_pos rfl] at H; exact H
        clear H
        have H := H1
        clear H1
        have H' := Aside0.mk H
        clear H
        have p795 : 0 ≤ (x17_1 : Int) := of_decide_eq_true (by first | (with_reducible assumption) | assumption)
        have q795 : x17_1 < (l1.length : Int) := of_decide_eq_true (by first | (with_reducible assumption) | assumption)
        obtain ⟨ad795, e795, hx795_0⟩ := Kd.at_int HR1.out x17_1 p795 q795
        cases e795
        replace hx795_0 := (HB.out.cell (World.block_lt_of_cell? w _ hx795_0)).trans hx795_0
        replace p795 := eq_true p795
        replace q795 := eq_true q795
        have hnb15 := NB794_790.out
        have hnc15 := NB790_794.out
        have hcz16_0 : wr.cell? ⟨gb794, 0, none⟩ = some (.int .i64 t791) := (blk_cell BK794.out 0).trans rfl
        have hcz16_1 : wr.cell? ⟨gb794, 1, none⟩ = some (.int .i64 t792) := (blk_cell BK794.out 1).trans rfl
        have hfz16_0 := blk_frozen BK794.out 0
        have hfz16_1 := blk_frozen BK794.out 1
        go_wp2_with (first | (go_at_call 100; (with_reducible refine (ints_length_has.calls t791 t792 (rd l1 x17_1) true _ A13.out).mono ?_); rintro e w17 ⟨rfl, hb⟩; replace BK790 := Aside0.mk (bb BK790 hb); replace BK794 := Aside0.mk (bb BK794 hb); replace HB := Aside0.mk (below_step (bw HB) hb); (try clear hb); (try clear hb2); (try clear hk); (try clear hi)))
        go_roundg k1
        case measure => have := HK1.out; omega
        case rel => exact ⟨(x7_1), (wrap64 (x17_1 + 1)), (by first | rfl | (simp; done) | (simp [*]; done)), (by first | rfl | (simp; done) | (simp [*]; done)), H', ⟨by have := HK1.out; omega⟩, ⟨by (with_reducible repeat (first | refine blk_drewN ?_ _ | refine blk_drew ?_ | refine blk_alloc ?_ _)); exact BK790.out⟩, ⟨by (with_reducible repeat (first | refine blk_drewN ?_ _ | refine blk_drew ?_ | refine blk_alloc ?_ _)); exact BK794.out⟩, ⟨bw HB⟩⟩
       ·replace c14 := Bool.eq_false_iff.mpr c14
        subst c14
        have H1 : (ints_ints.l0 k1 11 l1 (l1.length : Int) (wrap64 (x17_1 + 1)) t791 t792) = some (r1, r2, r3) := by rw [if_neg (show ¬ (false = true) by decide)] at H; exact H
        clear H
        have H := H1
        clear H1
        have H' := Aside0.mk H
        clear H
        have p795 : 0 ≤ (x17_1 : Int) := of_decide_eq_true (by first | (with_reducible assumption) | assumption)
        have q795 : x17_1 < (l1.length : Int) := of_decide_eq_true (by first | (with_reducible assumption) | assumption)
        obtain ⟨ad795, e795, hx795_0⟩ := Kd.at_int HR1.out x17_1 p795 q795
        cases e795
        replace hx795_0 := (HB.out.cell (World.block_lt_of_cell? w _ hx795_0)).trans hx795_0
        replace p795 := eq_true p795
        replace q795 := eq_true q795
        have hnb18 := NB794_790.out
        have hnc18 := NB790_794.out
        have hcz19_0 : wr.cell? ⟨gb794, 0, none⟩ = some (.int .i64 t791) := (blk_cell BK794.out 0).trans rfl
        have hcz19_1 : wr.cell? ⟨gb794, 1, none⟩ = some (.int .i64 t792) := (blk_cell BK794.out 1).trans rfl
        have hfz19_0 := blk_frozen BK794.out 0
        have hfz19_1 := blk_frozen BK794.out 1
        go_wp2_with (first | (go_at_call 100; (with_reducible refine (ints_length_has.calls t791 t792 (rd l1 x17_1) false _ A13.out).mono ?_); rintro e w20 ⟨rfl, hb⟩; replace BK790 := Aside0.mk (bb BK790 hb); replace BK794 := Aside0.mk (bb BK794 hb); replace HB := Aside0.mk (below_step (bw HB) hb); (try clear hb); (try clear hb2); (try clear hk); (try clear hi)))
        go_roundg k1
        case measure => have := HK1.out; omega
        case rel => exact ⟨(11), (wrap64 (x17_1 + 1)), (by first | rfl | (simp; done) | (simp [*]; done)), (by first | rfl | (simp; done) | (simp [*]; done)), H', ⟨by have := HK1.out; omega⟩, ⟨by (with_reducible repeat (first | refine blk_drewN ?_ _ | refine blk_drew ?_ | refine blk_alloc ?_ _)); exact BK790.out⟩, ⟨by (with_reducible repeat (first | refine blk_drewN ?_ _ | refine blk_drew ?_ | refine blk_alloc ?_ _)); exact BK794.out⟩, ⟨bw HB⟩⟩
      ·rw [if_neg c12] at H
       have c12b0 : (x7_1 == 0) = false := beq_eq_false_iff_ne.mpr c12
       have c12b1 : (x7_1 != 0) = true := bne_iff_ne.mpr c12
       have H' := Aside0.mk H
       clear H
       have p795 : 0 ≤ (x17_1 : Int) := of_decide_eq_true (by first | (with_reducible assumption) | assumption)
       have q795 : x17_1 < (l1.length : Int) := of_decide_eq_true (by first | (with_reducible assumption) | assumption)
       obtain ⟨ad795, e795, hx795_0⟩ := Kd.at_int HR1.out x17_1 p795 q795
       cases e795
       replace hx795_0 := (HB.out.cell (World.block_lt_of_cell? w _ hx795_0)).trans hx795_0
       replace p795 := eq_true p795
       replace q795 := eq_true q795
       go_wp2
       go_roundg k1
       case measure => have := HK1.out; omega
       case rel => exact ⟨(x7_1), (wrap64 (x17_1 + 1)), (by first | rfl | (simp; done) | (simp [*]; done)), (by first | rfl | (simp; done) | (simp [*]; done)), H', ⟨by have := HK1.out; omega⟩, ⟨by (with_reducible repeat (first | refine blk_drewN ?_ _ | refine blk_drew ?_ | refine blk_alloc ?_ _)); exact BK790.out⟩, ⟨by (with_reducible repeat (first | refine blk_drewN ?_ _ | refine blk_drew ?_ | refine blk_alloc ?_ _)); exact BK794.out⟩, ⟨bw HB⟩⟩
     ·rw [if_neg c11] at H
      exact absurd H (by simp)
    ·rw [if_neg c10] at H
     exact absurd H (by simp)
   ·rw [if_neg c9] at H
    have c9b0 : decide (x17_1 < (l1.length : Int)) = false := decide_eq_false c9
    clear c9
    simp only [Option.some.injEq, Prod.mk.injEq] at H
    obtain ⟨rfl, rfl, rfl⟩ := H
    have hnb21 := NB794_790.out
    have hnc21 := NB790_794.out
    have hcz22_0 : wr.cell? ⟨gb794, 0, none⟩ = some (.int .i64 t791) := (blk_cell BK794.out 0).trans rfl
    have hcz22_1 : wr.cell? ⟨gb794, 1, none⟩ = some (.int .i64 t792) := (blk_cell BK794.out 1).trans rfl
    have hfz22_0 := blk_frozen BK794.out 0
    have hfz22_1 := blk_frozen BK794.out 1
    have hcz23_0 : wr.cell? ⟨gb790, 0, none⟩ = some (.int .i64 0) := (blk_cell BK790.out 0).trans rfl
    have hcz23_1 : wr.cell? ⟨gb790, 1, none⟩ = some (.int .i64 0) := (blk_cell BK790.out 1).trans rfl
    have hfz23_0 := blk_frozen BK790.out 0
    have hfz23_1 := blk_frozen BK790.out 1
    go_wp2
    refine bodyPost_ret (results_ct rfl _ _ gb790 112 #[.int .i64 t791, .int .i64 t792] (0, 0) _ rfl (by (with_reducible repeat (first | refine blk_drewN ?_ _ | refine blk_drew ?_ | refine blk_alloc ?_ _)); refine blk_put (cs := #[.int .i64 t791, .int .i64 0]) ?_ 1 _ rfl; (with_reducible repeat (first | refine blk_drewN ?_ _ | refine blk_drew ?_ | refine blk_alloc ?_ _)); refine blk_put (cs := #[.int .i64 0, .int .i64 0]) ?_ 0 _ rfl; (with_reducible repeat (first | refine blk_drewN ?_ _ | refine blk_drew ?_ | refine blk_alloc ?_ _)); exact BK790.out) Try.underlying112 rfl (by kernel_rfl)) rfl ?_
    exact ⟨by first | rfl | (simp [errW_none, errW_some] <;> rfl) | (simp [*, errW_none, errW_some] <;> rfl), bw HB⟩

/-! ### ints_Is: function 96 -/
def ints_Is.f (k : Nat) (a0 : Int) (a1 : Int) : Option (Bool) := (ints_ints.f k a0 (([a1] : List Int))).bind fun bt800 => (some (bt800.2.2 == 0))
theorem ints_Is.mono : ∀ a0 a1 k, LeO (ints_Is.f k a0 a1) (ints_Is.f (k + 1) a0 a1) := by
 intro a0 a1 k
 unfold ints_Is.f
 repeat' first
   | (with_reducible exact ints_ints.mono _ _ _)
   | (with_reducible exact LeO.refl _)
   | (with_reducible exact LeO.none _)
   | (with_reducible refine LeO.ite ?_ ?_)
   | (with_reducible refine LeO.bind ?_ (fun _ => ?_))
   | exact ints_ints.mono _ _ _
   | exact LeO.none _
   | refine LeO.ite ?_ ?_
   | refine LeO.bind ?_ (fun _ => ?_)
set_option maxHeartbeats 8000000 in
set_option maxRecDepth 100000 in
theorem ints_Is.calls (k : Nat) (a0 : Int) (a1 : Int) (r : Bool) (w : World) (h : ints_Is.f k a0 a1 = some r) :
  Calls Try.prog 96 #[.int .i64 a0, .int .i64 a1] w fun e w' => e = .returned (.bool r) ∧ Below w.heap.size w w' := by
 have hu112 := Try.underlying112
 have HB := Aside0.mk (Below.refl w.heap.size w)
 have H : ((ints_ints.f k a0 (([a1] : List Int))).bind fun bt800 => (some (bt800.2.2 == 0))) = some r := h
 clear h
 obtain ⟨y797, hy797⟩ : ∃ y_ : List Int, y_ = (([a1] : List Int)) := ⟨_, rfl⟩
 replace H : ((ints_ints.f k a0 y797).bind fun bt800 => (some (bt800.2.2 == 0))) = some r := by first | (rw [hy797]; with_reducible exact H) | (have H2_ := (Option.bind_some _ _).symm.trans H; rw [hy797]; with_reducible exact H2_) | (have H2_ := (Option.bind_some _ _).symm.trans H; with_reducible exact H2_) | with_reducible exact H | (rw [hy797]; exact H) | exact H
 have Ny797 := Aside0.mk hy797
 clear hy797
 replace H := Option.bind_eq_some_iff.mp H
 obtain ⟨⟨t800, t801, t802⟩, A30, H⟩ := H
 replace H : (some (t802 == 0)) = some r := H
 have A3 := Aside0.mk A30
 clear A30
 obtain rfl := Option.some.inj H
 go_enter Try.func96, Try.ntmps96
 go_wp2_with (first | ((with_reducible refine gate_dst (N := 10) rfl ?_); refine Kd.R_lit (Kd.int .i64) _ 2 ?hg (N := 10) ?hd (xs := ([a1] : List Int)) (inner := [.int .i64 a1]) (ok := fun _ => True) (okp := fun _ => True) ?hr ?hp (fun _ hk => hk) trivial (Below.refl _ _) (Nat.le_refl _) (by simp) ?_; (case hd => rfl); (case hg => rfl); (case hr => first | (go_simp; done) | (go_simp; rfl)); (case hp => exact (Reps.one (show Kd.M (Kd.int .i64) _ _ _ a1 [.int .i64 a1] from rfl) (Reps.none _ _))); intro v798 w4 ho5 hb hg_ hnew_; clear hg_ hnew_; (first | rw [← Ny797.out] at ho5 | (simp only [Int.reduceToNat] at ho5; rw [← Ny797.out] at ho5)); have HO799 := Aside0.mk (Kd.R_lower ho5 (below_size (bw HB))); replace HB := Aside0.mk (below_step (bw HB) hb); clear hb ho5; obtain ⟨Ao6, co6, eo6⟩ := Kd.R_slice HO799.out; subst eo6) | ((with_reducible refine gate_callee (f := 98) rfl ?_); refine goesL_ (some 11) rfl rfl Try.func98 (by kernel_rfl) rfl #[.int .i64 a0, .slice Ao6 y797.length co6] rfl (by (try simp only [List.map_toArray, List.map_cons, List.map_nil]); first | done | rfl | (simp only [List.length_drop, List.length_take]; rfl)) ?_; (with_reducible refine (ints_ints.calls k a0 _ _ y797 t800 t801 t802 _ ?side1 ?side2 A3.out).mono ?_); (case side1 => repeat (first | exact (Kd.R_reads' HO799.out).2.2 | (with_reducible refine Kd.C_alloc ?_ _) | (with_reducible refine Kd.C_drewN ?_ _) | (with_reducible refine Kd.C_drew ?_))); (case side2 => exact (Kd.R_reads' HO799.out).2.1); rintro e w7 ⟨rfl, hb⟩; refine ⟨_, rfl, ?_⟩; replace HO799 := Aside0.mk (Kd.R_below (by (with_reducible repeat (first | apply Kd.R_alloc | apply Kd.R_drewN | apply Kd.R_drew)); exact HO799.out) hb); replace HB := Aside0.mk (below_step (bw HB) hb); (try clear hb); (try clear hb2); (try clear hk); (try clear hi)) | ((with_reducible refine gate_dst (N := 5) rfl ?_); refine box_event ?hg (N := 5) ?hd (cs := #[.int .i64 0, .int .i64 0]) (t := 112) ?hr ?_; (case hd => rfl); (case hg => rfl); (case hr => first | (go_simp; done) | (go_simp; rfl)); intro gb803 hg w8 hbox hb; replace HO799 := Aside0.mk (Kd.R_below (by (with_reducible repeat (first | apply Kd.R_alloc | apply Kd.R_drewN | apply Kd.R_drew)); exact HO799.out) hb); have BK803 := Aside0.mk (hbox); have GW803 := Aside0.mk (bs HB hg : w.heap.size ≤ gb803); replace HB := Aside0.mk (below_step (bw HB) hb); clear hb hbox hg; obtain ⟨hcz9_0, hcz9_1, hfz9_0, hfz9_1⟩ := cf2 BK803))
 go_ret
 exact ⟨by first | rfl | (simp [errW_none, errW_some] <;> rfl) | (simp [*, errW_none, errW_some] <;> rfl), bw HB⟩

/-! ### reals_whole: function 91 -/
def reals_whole.j0 : Nat → Int → Bool → Bool → Int → Int → Option (Int × Int)
 | 0, _, _, _, _, _ => none
 | k + 1, x0, x1, x16, x805000, x805001 => if x16 = true then (some (0, 11)) else (if x1 = true then ((ints_Is.f k x0 (wrap64 (-(wrap64 (x805001))))).bind fun t805 => (if t805 = true then (some (wrap64 (-(wrap64 (x805001))), 0)) else (some (0, 11)))) else ((ints_Is.f k x0 (wrap64 (x805001))).bind fun t806 => (if t806 = true then (some (wrap64 (x805001), 0)) else (some (0, 11)))))
def reals_whole.f (k : Nat) (a0 : Int) (a1 : Bool) (a2_0 : Int) (a2_1 : Int) : Option (Int × Int) := if a2_0 = 0 then (reals_whole.j0 k a0 a1 (decide (a2_1 > 4611686018427387904)) a2_0 a2_1) else (reals_whole.j0 k a0 a1 true a2_0 a2_1)
theorem reals_whole.mono_l : ∀ k, (∀ y0 y1 y2 y3 y4, LeO (reals_whole.j0 k y0 y1 y2 y3 y4) (reals_whole.j0 (k + 1) y0 y1 y2 y3 y4))
 | 0 => fun _ _ _ _ _ r h => by simp [reals_whole.j0] at h
 | k + 1 => by
  have ih0 := reals_whole.mono_l k
  ·intro y0 y1 y2 y3 y4
   unfold reals_whole.j0
   repeat' first
   | (with_reducible exact ih0 _ _ _ _ _)
   | (with_reducible exact ints_Is.mono _ _ _)
   | (with_reducible exact LeO.refl _)
   | (with_reducible exact LeO.none _)
   | (with_reducible refine LeO.ite ?_ ?_)
   | (with_reducible refine LeO.bind ?_ (fun _ => ?_))
   | exact ih0 _ _ _ _ _
   | exact ints_Is.mono _ _ _
   | exact LeO.none _
   | refine LeO.ite ?_ ?_
   | refine LeO.bind ?_ (fun _ => ?_)
theorem reals_whole.mono : ∀ a0 a1 a2 a3 k, LeO (reals_whole.f k a0 a1 a2 a3) (reals_whole.f (k + 1) a0 a1 a2 a3) := by
 intro a0 a1 a2 a3 k
 have ih0 := reals_whole.mono_l k
 unfold reals_whole.f
 repeat' first
   | (with_reducible exact ih0 _ _ _ _ _)
   | (with_reducible exact ints_Is.mono _ _ _)
   | (with_reducible exact LeO.refl _)
   | (with_reducible exact LeO.none _)
   | (with_reducible refine LeO.ite ?_ ?_)
   | (with_reducible refine LeO.bind ?_ (fun _ => ?_))
   | exact ih0 _ _ _ _ _
   | exact ints_Is.mono _ _ _
   | exact LeO.none _
   | refine LeO.ite ?_ ?_
   | refine LeO.bind ?_ (fun _ => ?_)
set_option maxHeartbeats 8000000 in
set_option maxRecDepth 100000 in
theorem reals_whole.calls (k : Nat) (a0 : Int) (a1 : Bool) (a2_0 : Int) (a2_1 : Int) (r1 : Int) (r2 : Int) (w : World) (h : reals_whole.f k a0 a1 a2_0 a2_1 = some (r1, r2)) :
  Calls Try.prog 91 #[.int .i64 a0, .bool a1, .agg #[.int .u64 a2_0, .int .u64 a2_1]] w fun e w' => e = .returned (.tuple #[.int .i64 r1, .int .i64 r2]) ∧ Below w.heap.size w w' := by
 have hu55 := Try.underlying55
 have HB := Aside0.mk (Below.refl w.heap.size w)
 have H : (if a2_0 = 0 then (reals_whole.j0 k a0 a1 (decide (a2_1 > 4611686018427387904)) a2_0 a2_1) else (reals_whole.j0 k a0 a1 true a2_0 a2_1)) = some (r1, r2) := h
 clear h
 have HC4 := Aside0.mk H
 clear H
 go_enter Try.func91, Try.ntmps91
 go_upto_region 1 with (first | ((with_reducible refine gate_dst (N := 5) rfl ?_); refine box_event ?hg (N := 5) ?hd (cs := #[.int .u64 a2_0, .int .u64 a2_1]) (t := 55) ?hr ?_; (case hd => rfl); (case hg => rfl); (case hr => first | (go_simp; done) | (go_simp; rfl)); intro gb804 hg w5 hbox hb; have BK804 := Aside0.mk (hbox); have GW804 := Aside0.mk (bs HB hg : w.heap.size ≤ gb804); replace HB := Aside0.mk (below_step (bw HB) hb); clear hb hbox hg))
 (try simp only [sx])
 go_cut [16] (fun v16 wc => ∃ (kq : Nat) (x16_3 : Bool), v16 = .bool x16_3 ∧ Aside0 (reals_whole.j0 kq a0 a1 x16_3 a2_0 a2_1 = some (r1, r2)) ∧ Aside0 (kq ≤ k) ∧ Aside0 (wc.heap[gb804]? = some (.cells #[.int .u64 a2_0, .int .u64 a2_1] 55 (0, 0))) ∧ Aside0 (Below w.heap.size w wc))
 case first =>
  have H := HC4.out
  clear HC4
  by_cases c6 : a2_0 = 0
  ·rw [if_pos c6] at H
   have c6b0 : (a2_0 == 0) = true := beq_iff_eq.mpr c6
   have c6b1 : (a2_0 != 0) = false := bne_eq_false_iff_eq.mpr c6
   clear c6
   (first | rw [c6b0] | (simp only [i64_w, i32_w]; rw [c6b0]) | skip)
   have H' := Aside0.mk H
   clear H
   obtain ⟨hcz7_0, hcz7_1, hfz7_0, hfz7_1⟩ := cf2 BK804
   go_wp2
   go_meet
   case rel => exact ⟨_, (decide (a2_1 > 4611686018427387904)), (by first | rfl | (simp; done) | (simp [*]; done)), H', ⟨by first | omega | exact Nat.le_refl _⟩, ⟨by (with_reducible repeat (first | refine blk_drewN ?_ _ | refine blk_drew ?_ | refine blk_alloc ?_ _)); exact BK804.out⟩, ⟨bw HB⟩⟩
  ·rw [if_neg c6] at H
   have c6b0 : (a2_0 == 0) = false := beq_eq_false_iff_ne.mpr c6
   have c6b1 : (a2_0 != 0) = true := bne_iff_ne.mpr c6
   (first | rw [c6b0] | (simp only [i64_w, i32_w]; rw [c6b0]) | skip)
   have H' := Aside0.mk H
   clear H
   obtain ⟨hcz8_0, hcz8_1, hfz8_0, hfz8_1⟩ := cf2 BK804
   go_wp2
   go_meet
   case rel => exact ⟨_, (true), (by first | rfl | (simp; done) | (simp [*]; done)), H', ⟨by first | omega | exact Nat.le_refl _⟩, ⟨by (with_reducible repeat (first | refine blk_drewN ?_ _ | refine blk_drew ?_ | refine blk_alloc ?_ _)); exact BK804.out⟩, ⟨bw HB⟩⟩
 case rest =>
  clear HC4
  try clear p2
  try clear c6
  try clear c6b0
  try clear c6b1
  try clear hcz7_0
  try clear hcz7_1
  try clear hcz8_0
  try clear hcz8_1
  try clear hfz7_0
  try clear hfz7_1
  try clear hfz8_0
  try clear hfz8_1
  obtain ⟨kq, x16_3, rfl, HA, HJ3, BK804, HB⟩ := hcut
  cases kq with
  | zero => exact absurd HA.out (by simp [reals_whole.j0])
  | succ kj3 =>
   have H := HA.out
   clear HA
   simp only [reals_whole.j0] at H
   by_cases c9 : x16_3 = true
   ·subst c9
    have H1 : (some (0, 11)) = some (r1, r2) := by rw [if_pos rfl] at H; exact H
    clear H
    have H := H1
    clear H1
    simp only [Option.some.injEq, Prod.mk.injEq] at H
    obtain ⟨rfl, rfl⟩ := H
    go_wp2
    go_ret2
    exact ⟨by first | rfl | (simp [errW_none, errW_some] <;> rfl) | (simp [*, errW_none, errW_some] <;> rfl), bw HB⟩
   ·replace c9 := Bool.eq_false_iff.mpr c9
    subst c9
    have H1 : (if a1 = true then ((ints_Is.f kj3 a0 (wrap64 (-(wrap64 (a2_1))))).bind fun t805 => (if t805 = true then (some (wrap64 (-(wrap64 (a2_1))), 0)) else (some (0, 11)))) else ((ints_Is.f kj3 a0 (wrap64 (a2_1))).bind fun t806 => (if t806 = true then (some (wrap64 (a2_1), 0)) else (some (0, 11))))) = some (r1, r2) := by rw [if_neg (show ¬ (false = true) by decide)] at H; exact H
    clear H
    have H := H1
    clear H1
    by_cases c10 : a1 = true
    ·subst c10
     have H1 : ((ints_Is.f kj3 a0 (wrap64 (-(wrap64 (a2_1))))).bind fun t805 => (if t805 = true then (some (wrap64 (-(wrap64 (a2_1))), 0)) else (some (0, 11)))) = some (r1, r2) := by rw [if_pos rfl] at H; exact H
     clear H
     have H := H1
     clear H1
     replace H := Option.bind_eq_some_iff.mp H
     obtain ⟨t805, A110, H⟩ := H
     replace H : (if t805 = true then (some (wrap64 (-(wrap64 (a2_1))), 0)) else (some (0, 11))) = some (r1, r2) := H
     have A11 := Aside0.mk A110
     clear A110
     by_cases c12 : t805 = true
     ·subst c12
      have H1 : (some (wrap64 (-(wrap64 (a2_1))), 0)) = some (r1, r2) := by rw [if_pos rfl] at H; exact H
      clear H
      have H := H1
      clear H1
      simp only [Option.some.injEq, Prod.mk.injEq] at H
      obtain ⟨rfl, rfl⟩ := H
      have hcz13_0 : wc.cell? ⟨gb804, 0, none⟩ = some (.int .u64 a2_0) := (blk_cell BK804.out 0).trans rfl
      have hcz13_1 : wc.cell? ⟨gb804, 1, none⟩ = some (.int .u64 a2_1) := (blk_cell BK804.out 1).trans rfl
      have hfz13_0 := blk_frozen BK804.out 0
      have hfz13_1 := blk_frozen BK804.out 1
      go_wp2_with (first | ((with_reducible refine gate_callee (f := 96) rfl ?_); refine goesL_ (some 25) rfl rfl Try.func96 (by kernel_rfl) rfl #[.int .i64 a0, .int .i64 (wrap64 (-(wrap64 (a2_1))))] rfl (by (try simp only [List.map_toArray, List.map_cons, List.map_nil]); first | done | rfl | (simp only [List.length_drop, List.length_take]; rfl)) ?_; (with_reducible refine (ints_Is.calls kj3 a0 (wrap64 (-(wrap64 (a2_1)))) true _ A11.out).mono ?_); rintro e w14 ⟨rfl, hb⟩; refine ⟨_, rfl, ?_⟩; replace BK804 := Aside0.mk (bb BK804 hb); replace HB := Aside0.mk (below_step (bw HB) hb); (try clear hb); (try clear hb2); (try clear hk); (try clear hi)))
      go_ret2
      exact ⟨by first | rfl | (simp [errW_none, errW_some] <;> rfl) | (simp [*, errW_none, errW_some] <;> rfl), bw HB⟩
     ·replace c12 := Bool.eq_false_iff.mpr c12
      subst c12
      have H1 : (some (0, 11)) = some (r1, r2) := by rw [if_neg (show ¬ (false = true) by decide)] at H; exact H
      clear H
      have H := H1
      clear H1
      simp only [Option.some.injEq, Prod.mk.injEq] at H
      obtain ⟨rfl, rfl⟩ := H
      have hcz15_0 : wc.cell? ⟨gb804, 0, none⟩ = some (.int .u64 a2_0) := (blk_cell BK804.out 0).trans rfl
      have hcz15_1 : wc.cell? ⟨gb804, 1, none⟩ = some (.int .u64 a2_1) := (blk_cell BK804.out 1).trans rfl
      have hfz15_0 := blk_frozen BK804.out 0
      have hfz15_1 := blk_frozen BK804.out 1
      go_wp2_with (first | ((with_reducible refine gate_callee (f := 96) rfl ?_); refine goesL_ (some 25) rfl rfl Try.func96 (by kernel_rfl) rfl #[.int .i64 a0, .int .i64 (wrap64 (-(wrap64 (a2_1))))] rfl (by (try simp only [List.map_toArray, List.map_cons, List.map_nil]); first | done | rfl | (simp only [List.length_drop, List.length_take]; rfl)) ?_; (with_reducible refine (ints_Is.calls kj3 a0 (wrap64 (-(wrap64 (a2_1)))) false _ A11.out).mono ?_); rintro e w16 ⟨rfl, hb⟩; refine ⟨_, rfl, ?_⟩; replace BK804 := Aside0.mk (bb BK804 hb); replace HB := Aside0.mk (below_step (bw HB) hb); (try clear hb); (try clear hb2); (try clear hk); (try clear hi)))
      go_ret2
      exact ⟨by first | rfl | (simp [errW_none, errW_some] <;> rfl) | (simp [*, errW_none, errW_some] <;> rfl), bw HB⟩
    ·replace c10 := Bool.eq_false_iff.mpr c10
     subst c10
     have H1 : ((ints_Is.f kj3 a0 (wrap64 (a2_1))).bind fun t806 => (if t806 = true then (some (wrap64 (a2_1), 0)) else (some (0, 11)))) = some (r1, r2) := by rw [if_neg (show ¬ (false = true) by decide)] at H; exact H
     clear H
     have H := H1
     clear H1
     replace H := Option.bind_eq_some_iff.mp H
     obtain ⟨t806, A170, H⟩ := H
     replace H : (if t806 = true then (some (wrap64 (a2_1), 0)) else (some (0, 11))) = some (r1, r2) := H
     have A17 := Aside0.mk A170
     clear A170
     by_cases c18 : t806 = true
     ·subst c18
      have H1 : (some (wrap64 (a2_1), 0)) = some (r1, r2) := by rw [if_pos rfl] at H; exact H
      clear H
      have H := H1
      clear H1
      simp only [Option.some.injEq, Prod.mk.injEq] at H
      obtain ⟨rfl, rfl⟩ := H
      have hcz19_0 : wc.cell? ⟨gb804, 0, none⟩ = some (.int .u64 a2_0) := (blk_cell BK804.out 0).trans rfl
      have hcz19_1 : wc.cell? ⟨gb804, 1, none⟩ = some (.int .u64 a2_1) := (blk_cell BK804.out 1).trans rfl
      have hfz19_0 := blk_frozen BK804.out 0
      have hfz19_1 := blk_frozen BK804.out 1
      go_wp2_with (first | ((with_reducible refine gate_callee (f := 96) rfl ?_); refine goesL_ (some 25) rfl rfl Try.func96 (by kernel_rfl) rfl #[.int .i64 a0, .int .i64 (wrap64 (a2_1))] rfl (by (try simp only [List.map_toArray, List.map_cons, List.map_nil]); first | done | rfl | (simp only [List.length_drop, List.length_take]; rfl)) ?_; (with_reducible refine (ints_Is.calls kj3 a0 (wrap64 (a2_1)) true _ A17.out).mono ?_); rintro e w20 ⟨rfl, hb⟩; refine ⟨_, rfl, ?_⟩; replace BK804 := Aside0.mk (bb BK804 hb); replace HB := Aside0.mk (below_step (bw HB) hb); (try clear hb); (try clear hb2); (try clear hk); (try clear hi)))
      go_ret2
      exact ⟨by first | rfl | (simp [errW_none, errW_some] <;> rfl) | (simp [*, errW_none, errW_some] <;> rfl), bw HB⟩
     ·replace c18 := Bool.eq_false_iff.mpr c18
      subst c18
      have H1 : (some (0, 11)) = some (r1, r2) := by rw [if_neg (show ¬ (false = true) by decide)] at H; exact H
      clear H
      have H := H1
      clear H1
      simp only [Option.some.injEq, Prod.mk.injEq] at H
      obtain ⟨rfl, rfl⟩ := H
      have hcz21_0 : wc.cell? ⟨gb804, 0, none⟩ = some (.int .u64 a2_0) := (blk_cell BK804.out 0).trans rfl
      have hcz21_1 : wc.cell? ⟨gb804, 1, none⟩ = some (.int .u64 a2_1) := (blk_cell BK804.out 1).trans rfl
      have hfz21_0 := blk_frozen BK804.out 0
      have hfz21_1 := blk_frozen BK804.out 1
      go_wp2_with (first | ((with_reducible refine gate_callee (f := 96) rfl ?_); refine goesL_ (some 25) rfl rfl Try.func96 (by kernel_rfl) rfl #[.int .i64 a0, .int .i64 (wrap64 (a2_1))] rfl (by (try simp only [List.map_toArray, List.map_cons, List.map_nil]); first | done | rfl | (simp only [List.length_drop, List.length_take]; rfl)) ?_; (with_reducible refine (ints_Is.calls kj3 a0 (wrap64 (a2_1)) false _ A17.out).mono ?_); rintro e w22 ⟨rfl, hb⟩; refine ⟨_, rfl, ?_⟩; replace BK804 := Aside0.mk (bb BK804 hb); replace HB := Aside0.mk (below_step (bw HB) hb); (try clear hb); (try clear hb2); (try clear hk); (try clear hi)))
      go_ret2
      exact ⟨by first | rfl | (simp [errW_none, errW_some] <;> rfl) | (simp [*, errW_none, errW_some] <;> rfl), bw HB⟩

-- NOT PRINTED: function 69 (reals_integer)

-- NOT PRINTED: function 39 (reals_Entier)
end Go.Proofs.Ytamkjpjibkabaaa.PR
