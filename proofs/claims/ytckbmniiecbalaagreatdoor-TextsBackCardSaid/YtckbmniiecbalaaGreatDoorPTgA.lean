-- written by a program of this session out of the kit's print (its words and its form)
import Derived.Test.YtckbmniiecbalaaGreatDoorPTsq
import Derived.Test.YtckbmniiecbalaaGreatDoorPTx0
namespace Go.Proofs.YtckbmniiecbalaaGreatDoor.PT
open Go.RowKit Go.Proofs.YtckbmniiecbalaaGreatDoorW.PrintWords Go.Proofs.YtckbmniiecbalaaGreatDoorW.PrintLast Go.Proofs.YtckbmniiecbalaaGreatDoorW.PrintMore
attribute [local go_sem] max2_int min2_int max_two min_two max_three min_three max_four min_four   -- for this text's walks alone
set_option linter.unusedVariables false
set_option linter.unusedSimpArgs false

/-! ### w_base: function 0: words -/
def u64s : Int := 18446744073709551616
structure U64 (x : Int) : Prop where mk :: (out : 0 ≤ x ∧ x < u64s)
instance (x : Int) : Decidable (U64 x) := decidable_of_iff (0 ≤ x ∧ x < u64s) ⟨fun h => ⟨h⟩, fun h => h.out⟩
theorem run_add {x y c : Int} (hx : U64 x) (hy : U64 y) (hc : c = 0 ∨ c = 1) (w : World) : (callFunc 163 #[.int .u64 x, .int .u64 y, .int .u64 c]).run Tryz.prog w = .ok (.value (.tuple #[.int .u64 ((x + y + c) % u64s), .int .u64 ((x + y + c) / u64s)])) w := by
 have hx := hx.out; have hy := hy.out
 rw [run_callFunc_extern Tryz.func163 (by kernel_rfl) (by kernel_rfl) (by kernel_rfl) (e := add64Entry) (by kernel_rfl), run_add64 x y c (by omega) (by omega) (by omega) (by omega)]
 rfl
def sub64Entry : Array Value → Sem Value := fun args => do
 let (x, y, b) ← Extern.MathBitsCarry.three "Sub64" args
 pure (Extern.MathBitsCarry.pair ((x + Extern.MathBitsCarry.m64 - y - b) % Extern.MathBitsCarry.m64) (if x < y + b then 1 else 0))
theorem run_sub {x y c : Int} (hx : U64 x) (hy : U64 y) (hc : c = 0 ∨ c = 1) (w : World) : (callFunc 165 #[.int .u64 x, .int .u64 y, .int .u64 c]).run Tryz.prog w = .ok (.value (.tuple #[.int .u64 ((x - y - c) % u64s), .int .u64 (if x < y + c then 1 else 0)])) w := by
 have hx := hx.out; have hy := hy.out
 obtain ⟨x, rfl⟩ := Int.eq_ofNat_of_zero_le hx.1
 obtain ⟨y, rfl⟩ := Int.eq_ofNat_of_zero_le hy.1
 have key : ∀ b : Nat, b ≤ 1 → (sub64Entry #[.int .u64 x, .int .u64 y, .int .u64 b]).run Tryz.prog w = .ok (.tuple #[.int .u64 (((x + 18446744073709551616 - y - b) % 18446744073709551616 : Nat) : Int), .int .u64 ((if x < y + b then 1 else 0 : Nat) : Int)]) w := by
  intro b hb
  have : b = 0 ∨ b = 1 := by omega
  rcases this with rfl | rfl <;> rfl
 have fin : ∀ b : Nat, b ≤ 1 → (callFunc 165 #[.int .u64 x, .int .u64 y, .int .u64 b]).run Tryz.prog w = .ok (.value (.tuple #[.int .u64 (((x : Int) - y - b) % u64s), .int .u64 (if (x : Int) < y + b then 1 else 0)])) w := by
  intro b hb
  rw [run_callFunc_extern Tryz.func165 (by kernel_rfl) (by kernel_rfl) (by kernel_rfl) (e := sub64Entry) (by kernel_rfl), key b hb]
  unfold u64s at *
  have e1 : (((x + 18446744073709551616 - y - b) % 18446744073709551616 : Nat) : Int) = ((x : Int) - y - b) % 18446744073709551616 := by omega
  have e2 : ((if x < y + b then 1 else 0 : Nat) : Int) = if (x : Int) < y + b then 1 else 0 := by split <;> split <;> omega
  rw [e1, e2]; rfl
 rcases hc with rfl | rfl
 ·exact fin 0 (by decide)
 ·exact fin 1 (by decide)
/-- what a box of two words holds, one store after the other -/
theorem two_cells (w : World) (v1 v2 u1 u2 : Value) (T : TypeId) : (((w.alloc (.cells #[u1, u2] T)).setCell ⟨w.heap.size, 0, none⟩ v1).setCell ⟨w.heap.size, 1, none⟩ v2) = w.alloc (.cells #[v1, v2] T) := by
 go_simp

/-! ### bits_Mul64: function 114 -/
def bits_Mul64.f (a0 : Int) (a1 : Int) : Option (Int × Int) := if U64 a0 ∧ U64 a1 then some (a0 * a1 / u64s, a0 * a1 % u64s) else none
set_option maxHeartbeats 8000000 in
theorem bits_Mul64.calls (a0 : Int) (a1 : Int) (r1 : Int) (r2 : Int) (w : World) (h : bits_Mul64.f a0 a1 = some (r1, r2)) :
  Calls Tryz.prog 114 #[.int .u64 a0, .int .u64 a1] w fun e w' => e = .returned (.tuple #[.int .u64 r1, .int .u64 r2]) ∧ Drawn0 w w' := by
 unfold bits_Mul64.f at h
 by_cases hc : U64 a0 ∧ U64 a1
 ·rw [if_pos hc] at h
  simp only [Option.some.injEq, Prod.mk.injEq] at h
  have H1 := Aside0.mk h.1; have H2 := Aside0.mk h.2; have HC := Aside0.mk hc
  clear h hc
  go_enter Tryz.func114, Tryz.ntmps114
  go_wp2
  go_ret2
  refine ⟨?_, Drawn0.refl _⟩
  obtain ⟨⟨h0, h1⟩, ⟨h2, h3⟩⟩ := And.intro HC.out.1.out HC.out.2.out
  unfold u64s at h1 h3
  have hm := mul64_arith a0 a1 h0 h1 h2 h3
  have hx : Go.bits .and .u64 a0 4294967295 = a0 % 4294967296 := and_low32 a0 h0 h1
  have hy : Go.bits .and .u64 a1 4294967295 = a1 % 4294967296 := and_low32 a1 h2 h3
  simp only [hx, hy, IntKind.wrap_u64]
  rw [and_low32 _ (Int.emod_nonneg _ (by decide)) (Int.emod_lt_of_pos _ (by decide)), hm, ← H1.out, ← H2.out]
  rfl
 ·rw [if_neg hc] at h; cases h

/-! ### reals_Digits: function 106 -/
def reals_Digits.f (a0 : Int) : Option (Int × Int) := if a0 = (-1) then (some (7, 0)) else (if a0 = 0 then (some (15, 0)) else (if a0 = 1 then (some (18, 0)) else (some (0, 1))))
set_option maxHeartbeats 8000000 in
set_option maxRecDepth 100000 in
theorem reals_Digits.calls (a0 : Int) (r1 : Int) (r2 : Int) (w : World) (h : reals_Digits.f a0 = some (r1, r2)) :
  Calls Tryz.prog 106 #[.int .i64 a0] w fun e w' => e = .returned (.tuple #[.int .i64 r1, .int .i64 r2]) ∧ Drawn0 w w' := by
 have H : (if a0 = (-1) then (some (7, 0)) else (if a0 = 0 then (some (15, 0)) else (if a0 = 1 then (some (18, 0)) else (some (0, 1))))) = some (r1, r2) := h
 clear h
 by_cases c2 : a0 = (-1)
 ·rw [if_pos c2] at H
  have c2b0 : (a0 == (-1)) = true := beq_iff_eq.mpr c2
  have c2b1 : (a0 != (-1)) = false := bne_eq_false_iff_eq.mpr c2
  clear c2
  simp only [Option.some.injEq, Prod.mk.injEq] at H
  obtain ⟨rfl, rfl⟩ := H
  go_enter Tryz.func106, Tryz.ntmps106
  go_wp2
  go_ret2
  exact ⟨by first | rfl | (simp; done) | (simp [*]; done), by repeat (first | exact Drawn0.refl _ | apply Drawn0.step)⟩
 ·rw [if_neg c2] at H
  have c2b0 : (a0 == (-1)) = false := beq_eq_false_iff_ne.mpr c2
  have c2b1 : (a0 != (-1)) = true := bne_iff_ne.mpr c2
  by_cases c3 : a0 = 0
  ·rw [if_pos c3] at H
   have c3b0 : (a0 == 0) = true := beq_iff_eq.mpr c3
   have c3b1 : (a0 != 0) = false := bne_eq_false_iff_eq.mpr c3
   clear c3
   simp only [Option.some.injEq, Prod.mk.injEq] at H
   obtain ⟨rfl, rfl⟩ := H
   go_enter Tryz.func106, Tryz.ntmps106
   go_wp2
   go_ret2
   exact ⟨by first | rfl | (simp; done) | (simp [*]; done), by repeat (first | exact Drawn0.refl _ | apply Drawn0.step)⟩
  ·rw [if_neg c3] at H
   have c3b0 : (a0 == 0) = false := beq_eq_false_iff_ne.mpr c3
   have c3b1 : (a0 != 0) = true := bne_iff_ne.mpr c3
   by_cases c4 : a0 = 1
   ·rw [if_pos c4] at H
    have c4b0 : (a0 == 1) = true := beq_iff_eq.mpr c4
    have c4b1 : (a0 != 1) = false := bne_eq_false_iff_eq.mpr c4
    clear c4
    simp only [Option.some.injEq, Prod.mk.injEq] at H
    obtain ⟨rfl, rfl⟩ := H
    go_enter Tryz.func106, Tryz.ntmps106
    go_wp2
    go_ret2
    exact ⟨by first | rfl | (simp; done) | (simp [*]; done), by repeat (first | exact Drawn0.refl _ | apply Drawn0.step)⟩
   ·rw [if_neg c4] at H
    have c4b0 : (a0 == 1) = false := beq_eq_false_iff_ne.mpr c4
    have c4b1 : (a0 != 1) = true := bne_iff_ne.mpr c4
    simp only [Option.some.injEq, Prod.mk.injEq] at H
    obtain ⟨rfl, rfl⟩ := H
    go_enter Tryz.func106, Tryz.ntmps106
    go_wp2
    go_ret2
    exact ⟨by first | rfl | (simp; done) | (simp [*]; done), by repeat (first | exact Drawn0.refl _ | apply Drawn0.step)⟩

/-! ### reals_magnitude: function 111 -/
def reals_magnitude.f (a0 : Int) : Option (Int × Int) := if a0 < 0 then (some (0, IntKind.u64.wrap (-(IntKind.u64.wrap (a0))))) else (some (0, IntKind.u64.wrap (a0)))
set_option maxHeartbeats 8000000 in
set_option maxRecDepth 100000 in
theorem reals_magnitude.calls (a0 : Int) (r1 : Int) (r2 : Int) (w : World) (h : reals_magnitude.f a0 = some (r1, r2)) :
  Calls Tryz.prog 111 #[.int .i64 a0] w fun e w' => e = .returned (.agg #[.int .u64 r1, .int .u64 r2]) ∧ Below w.heap.size w w' := by
 have hu127 := Tryz.underlying127
 have HB := Aside0.mk (Below.refl w.heap.size w)
 have H : (if a0 < 0 then (some (0, IntKind.u64.wrap (-(IntKind.u64.wrap (a0))))) else (some (0, IntKind.u64.wrap (a0)))) = some (r1, r2) := h
 clear h
 by_cases c2 : a0 < 0
 ·rw [if_pos c2] at H
  have c2b0 : decide (a0 < 0) = true := decide_eq_true c2
  clear c2
  simp only [Option.some.injEq, Prod.mk.injEq] at H
  obtain ⟨rfl, rfl⟩ := H
  go_enter Tryz.func111, Tryz.ntmps111
  go_wp2_with (first | ((with_reducible refine gate_dst (N := 2) rfl ?_); refine box_event ?hg (N := 2) ?hd (cs := #[.int .u64 0, .int .u64 0]) (t := 127) ?hr ?_; (case hd => rfl); (case hg => rfl); (case hr => first | (go_simp; done) | (go_simp; rfl)); intro gb134 hg w3 hbox hb; have BK134 := Aside0.mk (hbox); have GW134 := Aside0.mk (bs HB hg : w.heap.size ≤ gb134); replace HB := Aside0.mk (below_step (bw HB) hb); clear hb hbox hg; obtain ⟨hcz4_0, hcz4_1, hfz4_0, hfz4_1⟩ := cf2 BK134))
  refine bodyPost_ret (results_cell_row rfl _ _ gb134 127 #[.int .u64 0, .int .u64 (IntKind.u64.wrap (-(IntKind.u64.wrap (a0))))] (0, 0) _ rfl (by (with_reducible repeat (first | refine blk_drewN ?_ _ | refine blk_drew ?_ | refine blk_alloc ?_ _)); refine blk_put (cs := #[.int .u64 0, .int .u64 0]) ?_ 1 _ rfl; (with_reducible repeat (first | refine blk_drewN ?_ _ | refine blk_drew ?_ | refine blk_alloc ?_ _)); refine blk_put (cs := #[.int .u64 0, .int .u64 0]) ?_ 0 _ rfl; (with_reducible repeat (first | refine blk_drewN ?_ _ | refine blk_drew ?_ | refine blk_alloc ?_ _)); exact BK134.out) Tryz.underlying127 rfl (by kernel_rfl)) rfl ?_
  exact ⟨by first | rfl | (simp [errW_none, errW_some] <;> rfl) | (simp [*, errW_none, errW_some] <;> rfl), bw HB⟩
 ·rw [if_neg c2] at H
  have c2b0 : decide (a0 < 0) = false := decide_eq_false c2
  clear c2
  simp only [Option.some.injEq, Prod.mk.injEq] at H
  obtain ⟨rfl, rfl⟩ := H
  go_enter Tryz.func111, Tryz.ntmps111
  go_wp2_with (first | ((with_reducible refine gate_dst (N := 2) rfl ?_); refine box_event ?hg (N := 2) ?hd (cs := #[.int .u64 0, .int .u64 0]) (t := 127) ?hr ?_; (case hd => rfl); (case hg => rfl); (case hr => first | (go_simp; done) | (go_simp; rfl)); intro gb134 hg w5 hbox hb; have BK134 := Aside0.mk (hbox); have GW134 := Aside0.mk (bs HB hg : w.heap.size ≤ gb134); replace HB := Aside0.mk (below_step (bw HB) hb); clear hb hbox hg; obtain ⟨hcz6_0, hcz6_1, hfz6_0, hfz6_1⟩ := cf2 BK134))
  refine bodyPost_ret (results_cell_row rfl _ _ gb134 127 #[.int .u64 0, .int .u64 (IntKind.u64.wrap (a0))] (0, 0) _ rfl (by (with_reducible repeat (first | refine blk_drewN ?_ _ | refine blk_drew ?_ | refine blk_alloc ?_ _)); refine blk_put (cs := #[.int .u64 0, .int .u64 0]) ?_ 1 _ rfl; (with_reducible repeat (first | refine blk_drewN ?_ _ | refine blk_drew ?_ | refine blk_alloc ?_ _)); refine blk_put (cs := #[.int .u64 0, .int .u64 0]) ?_ 0 _ rfl; (with_reducible repeat (first | refine blk_drewN ?_ _ | refine blk_drew ?_ | refine blk_alloc ?_ _)); exact BK134.out) Tryz.underlying127 rfl (by kernel_rfl)) rfl ?_
  exact ⟨by first | rfl | (simp [errW_none, errW_some] <;> rfl) | (simp [*, errW_none, errW_some] <;> rfl), bw HB⟩

/-! ### reals_wide_compare: function 137 -/
def reals_wide_compare.f (a0_0 : Int) (a0_1 : Int) (a1_0 : Int) (a1_1 : Int) : Option (Int) := some (if a0_0 = a1_0 ∧ a0_1 = a1_1 then 0 else if a0_0 < a1_0 ∨ a0_0 = a1_0 ∧ a0_1 < a1_1 then -1 else 1)
set_option maxHeartbeats 1000000 in
theorem reals_wide_compare.calls (a0_0 : Int) (a0_1 : Int) (a1_0 : Int) (a1_1 : Int) (r : Int) (w : World) (h : reals_wide_compare.f a0_0 a0_1 a1_0 a1_1 = some r) :
  Calls Tryz.prog 137 #[.agg #[.int .u64 a0_0, .int .u64 a0_1], .agg #[.int .u64 a1_0, .int .u64 a1_1]] w fun e w' => e = .returned (.int .i64 r) ∧ Below w.heap.size w w' := by
 unfold reals_wide_compare.f at h
 have hu := Tryz.underlying127
 have hb : ∀ x y z u : Int, Below w.heap.size w ((w.alloc (.cells #[.int .u64 x, .int .u64 y] 127)).alloc (.cells #[.int .u64 z, .int .u64 u] 127)) := fun _ _ _ _ => ((Below.refl _ _).alloc (Nat.le_refl _) _).alloc (by simp) _
 have HB := Aside0.mk hb
 clear hb
 by_cases hz : a0_0 = a1_0 ∧ a0_1 = a1_1
 ·rw [if_pos hz] at h; cases h
  obtain ⟨rfl, rfl⟩ := hz
  go_enter Tryz.func137, Tryz.ntmps137
  go_wp2
  go_ret
  exact ⟨rfl, HB.out _ _ _ _⟩
 ·rw [if_neg hz] at h
  by_cases hl : a0_0 < a1_0
  ·rw [if_pos (Or.inl hl)] at h; cases h
   have e1 : (a0_0 == a1_0) = false := by rw [beq_eq_false_iff_ne]; omega
   clear hz
   go_enter Tryz.func137, Tryz.ntmps137
   go_wp2
   go_ret
   exact ⟨rfl, HB.out _ _ _ _⟩
  ·by_cases he : a0_0 = a1_0
   ·subst he
    have e1 : (a0_1 == a1_1) = false := by rw [beq_eq_false_iff_ne]; exact fun h => hz ⟨rfl, h⟩
    have e2 : ¬ a0_1 = a1_1 := fun h => hz ⟨rfl, h⟩
    clear hz
    by_cases hm : a0_1 < a1_1
    ·rw [if_pos (Or.inr ⟨rfl, hm⟩)] at h; cases h
     go_enter Tryz.func137, Tryz.ntmps137
     go_wp2
     go_ret
     exact ⟨rfl, HB.out _ _ _ _⟩
    ·rw [if_neg (fun h => h.elim hl fun h => hm h.2)] at h; cases h
     go_enter Tryz.func137, Tryz.ntmps137
     go_wp2
     go_ret
     exact ⟨rfl, HB.out _ _ _ _⟩
   ·have e1 : (a0_0 == a1_0) = false := by rw [beq_eq_false_iff_ne]; exact he
    rw [if_neg (fun h => h.elim hl fun h => he h.1)] at h; cases h
    clear hz
    go_enter Tryz.func137, Tryz.ntmps137
    go_wp2
    go_ret
    exact ⟨rfl, HB.out _ _ _ _⟩

/-! ### reals_wide_times: function 138 -/
def reals_wide_times.f (a0_0 : Int) (a0_1 : Int) (a1 : Int) : Option (Int × Int) := if U64 a0_0 ∧ U64 a0_1 ∧ U64 a1 then some ((a0_1 * a1 / u64s + a0_0 * a1) % u64s, a0_1 * a1 % u64s) else none
set_option maxHeartbeats 1000000 in
theorem reals_wide_times.calls (a0_0 : Int) (a0_1 : Int) (a1 : Int) (r1 : Int) (r2 : Int) (w : World) (h : reals_wide_times.f a0_0 a0_1 a1 = some (r1, r2)) :
  Calls Tryz.prog 138 #[.agg #[.int .u64 a0_0, .int .u64 a0_1], .int .u64 a1] w fun e w' => e = .returned (.agg #[.int .u64 r1, .int .u64 r2]) ∧ Below w.heap.size w w' := by
 unfold reals_wide_times.f at h
 by_cases hc : U64 a0_0 ∧ U64 a0_1 ∧ U64 a1
 ·rw [if_pos hc] at h
  simp only [Option.some.injEq, Prod.mk.injEq] at h
  obtain ⟨s, t, hm, e1, e2⟩ : ∃ s t, bits_Mul64.f a0_1 a1 = some (s, t) ∧ Aside0 (s = a0_1 * a1 / u64s) ∧ Aside0 (t = a0_1 * a1 % u64s) := ⟨_, _, by unfold bits_Mul64.f; rw [if_pos ⟨hc.2.1, hc.2.2⟩], ⟨rfl⟩, ⟨rfl⟩⟩
  have H1 := Aside0.mk h.1; have H2 := Aside0.mk h.2; have HM := Aside0.mk hm
  clear h hc hm
  have hu := Tryz.underlying127
  have HB := Aside0.mk (Below.refl w.heap.size w)
  go_enter Tryz.func138, Tryz.ntmps138
  go_wp2_with fail
  refine (bits_Mul64.calls a0_1 a1 s t _ HM.out).mono ?_
  rintro e w1 ⟨rfl, ⟨n, rfl⟩⟩
  go_wp2_with fail
  refine bodyPost_ret (v := .agg #[.int .u64 ((s + a0_0 * a1) % u64s), .int .u64 t]) (by simp [results, Tryz.results138, go_sem, IntKind.wrap_u64, u64s]) rfl ⟨?_, ?_⟩
  ·rw [← H1.out, ← H2.out, e1.out, e2.out]
  ·refine Below.setCell (Below.setCell (pw_below_drewN (((Below.refl _ _).alloc (Nat.le_refl _) _).alloc (by simp) _) n) (by simp) _) (by simp) _
 ·rw [if_neg hc] at h; cases h

/-- the number that a wide is, and the two words of a number -/
def wv (h l : Int) : Int := h * u64s + l
def hiw (n : Nat) : Int := ((n / 18446744073709551616 : Nat) : Int)
def low (n : Nat) : Int := ((n % 18446744073709551616 : Nat) : Int)
theorem hl_of {h l : Int} (hh : U64 h) (hl : U64 l) : ∃ n : Nat, h = hiw n ∧ l = low n ∧ n < 340282366920938463463374607431768211456 := by
 have a := hh.out; have b := hl.out
 unfold u64s at a b
 obtain ⟨h, rfl⟩ := Int.eq_ofNat_of_zero_le a.1
 obtain ⟨l, rfl⟩ := Int.eq_ofNat_of_zero_le b.1
 refine ⟨h * 18446744073709551616 + l, ?_, ?_, by omega⟩
 ·unfold hiw; congr 1; omega
 ·unfold low; congr 1; omega
theorem hl_u {n : Nat} (h : n < 340282366920938463463374607431768211456) : U64 (hiw n) ∧ U64 (low n) := by
 exact ⟨⟨by unfold hiw u64s; omega⟩, ⟨by unfold low u64s; omega⟩⟩
/-- comparing wides is comparing the numbers -/
theorem cmp_is (n m : Nat) : reals_wide_compare.f (hiw n) (low n) (hiw m) (low m) = some (if n = m then 0 else if n < m then -1 else 1) := by
 unfold reals_wide_compare.f hiw low
 congr 1
 by_cases h : n = m
 ·subst h; simp
 ·have h1 : ¬ (((n / 18446744073709551616 : Nat) : Int) = ((m / 18446744073709551616 : Nat) : Int) ∧ ((n % 18446744073709551616 : Nat) : Int) = ((m % 18446744073709551616 : Nat) : Int)) := by omega
  rw [if_neg h1, if_neg h]
  by_cases h2 : n < m
  ·rw [if_pos h2, if_pos (by omega)]
  ·rw [if_neg h2, if_neg (by omega)]
theorem times_is {n c : Nat} (h : n * c < 340282366920938463463374607431768211456) (hn : n < 340282366920938463463374607431768211456) (hc : c < 18446744073709551616) : reals_wide_times.f (hiw n) (low n) (c : Int) = some (hiw (n * c), low (n * c)) := by
 unfold reals_wide_times.f
 have hu := hl_u hn
 have hcu : U64 (c : Int) := ⟨by unfold u64s; omega⟩
 rw [if_pos ⟨hu.1, hu.2, hcu⟩]
 unfold hiw low u64s
 have e : n * c = (n / 18446744073709551616 * c) * 18446744073709551616 + n % 18446744073709551616 * c := by
  have := Nat.div_add_mod n 18446744073709551616
  rw [show n * c = (18446744073709551616 * (n / 18446744073709551616) + n % 18446744073709551616) * c by rw [this], Nat.add_mul]
  congr 1
  rw [Nat.mul_assoc, Nat.mul_comm]
 rw [← Int.natCast_mul, ← Int.natCast_mul]
 generalize n / 18446744073709551616 * c = p at *
 generalize n % 18446744073709551616 * c = q at *
 rw [e] at h ⊢
 congr 2 <;> omega

/-- decimal digits of a number (0 has none), at most k of them -/
def dgF : Nat → Nat → Nat
 | 0, _ => 0
 | k + 1, n => if n = 0 then 0 else dgF k (n / 10) + 1
theorem dgF_more (n : Nat) : ∀ k, n ≤ k → dgF k n = dgF n n := by
 induction n using Nat.strongRecOn with
 | ind n ih =>
  intro k hk
  by_cases h : n = 0
  ·subst h; cases k <;> rfl
  ·obtain ⟨m, rfl⟩ : ∃ m, n = m + 1 := ⟨n - 1, by omega⟩
   obtain ⟨j, rfl⟩ : ∃ j, k = j + 1 := ⟨k - 1, by omega⟩
   simp only [dgF]; rw [if_neg h, if_neg h, ih ((m + 1) / 10) (by omega) j (by omega), ih ((m + 1) / 10) (by omega) m (by omega)]
/-- decimal digits of a number (0 has none) -/
def dg (n : Nat) : Nat := dgF n n
theorem dg_zero : dg 0 = 0 := rfl
theorem dg_pos {n : Nat} (h : n ≠ 0) : dg n = dg (n / 10) + 1 := by
 unfold dg
 obtain ⟨m, rfl⟩ : ∃ m, n = m + 1 := ⟨n - 1, by omega⟩
 simp only [dgF]; rw [if_neg h, dgF_more ((m + 1) / 10) m (by omega)]
theorem dg_lt (n : Nat) : n < 10 ^ dg n := by
 induction n using Nat.strongRecOn with
 | ind n ih =>
  by_cases h : n = 0
  ·subst h; rw [dg_zero]; decide
  ·rw [dg_pos h, Nat.pow_succ]; have := ih (n / 10) (by omega); omega
theorem dg_le {n : Nat} (h : n ≠ 0) : 10 ^ (dg n - 1) ≤ n := by
 induction n using Nat.strongRecOn with
 | ind n ih =>
  rw [dg_pos h, Nat.add_sub_cancel]
  by_cases h1 : n / 10 = 0
  ·rw [h1, dg_zero]; show 1 ≤ n; omega
  ·have := ih (n / 10) (by omega) h1
   have hp : dg (n / 10) = (dg (n / 10) - 1) + 1 := by have := dg_pos h1; omega
   rw [hp, Nat.pow_succ]; omega
/-- the digits are known by the two powers of 10 around the number -/
theorem dg_is {n k : Nat} (h1 : n < 10 ^ k) (h2 : k = 0 ∨ 10 ^ (k - 1) ≤ n) : dg n = k := by
 by_cases h : n = 0
 ·subst h
  rcases h2 with h2 | h2
  ·subst h2; exact dg_zero
  ·have := Nat.pow_pos (n := k - 1) (show 0 < 10 by decide); omega
 ·have a := dg_lt n
  have b := dg_le h
  have hd : dg n ≠ 0 := by have := dg_pos h; omega
  have hk : k ≠ 0 := by rintro rfl; simp at h1; omega
  have h2 : 10 ^ (k - 1) ≤ n := by rcases h2 with h2 | h2; exact absurd h2 hk; exact h2
  have c : k - 1 < dg n := (Nat.pow_lt_pow_iff_right (show 1 < 10 by decide)).1 (Nat.lt_of_le_of_lt h2 a)
  have d : dg n - 1 < k := (Nat.pow_lt_pow_iff_right (show 1 < 10 by decide)).1 (Nat.lt_of_le_of_lt b h1)
  omega
theorem p38 {k : Nat} (h : k ≤ 38) : 10 ^ k ≤ 100000000000000000000000000000000000000 := Nat.le_trans (Nat.pow_le_pow_right (by decide) h) (by decide)
/-! ### reals_wide_digits: function 112 -/
def reals_wide_digits.f (a0_0 : Int) (a0_1 : Int) : Option (Int) := if U64 a0_0 ∧ U64 a0_1 then some ((dg (wv a0_0 a0_1).toNat : Nat) : Int) else none
theorem wv_hl (n : Nat) : (wv (hiw n) (low n)).toNat = n := by unfold wv hiw low u64s; omega
set_option maxHeartbeats 4000000 in
set_option maxRecDepth 100000 in
theorem digits_calls (n : Nat) (hn : n < 340282366920938463463374607431768211456) (w : World) :
  Calls Tryz.prog 112 #[.agg #[.int .u64 (hiw n), .int .u64 (low n)]] w fun e w' => e = .returned (.int .i64 (dg n)) ∧ Below w.heap.size w w' := by
 obtain ⟨H, hH⟩ : ∃ H, H = hiw n := ⟨_, rfl⟩
 obtain ⟨L, hL⟩ : ∃ L, L = low n := ⟨_, rfl⟩
 rw [← hH, ← hL]
 have HH := Aside0.mk hH; have HL := Aside0.mk hL; have HN := Aside0.mk hn
 clear hH hL hn
 have hu := Tryz.underlying127
 go_enter Tryz.func112, Tryz.ntmps112
 go_wp2
 go_loopw [3, 4] (fun v3 v4 wr => ∃ (k b : Nat), v3 = .int .i64 k ∧ v4 = .pointer (some ⟨b, 0, none⟩) ∧ k ≤ 38 ∧ Aside0 (k = 0 ∨ 10 ^ (k - 1) ≤ n) ∧ Aside0 (wr.heap[w.heap.size]? = some (.cells #[.int .u64 H, .int .u64 L] 127 (0, 0))) ∧ Aside0 (wr.heap[b]? = some (.cells #[.int .u64 (hiw (10 ^ k)), .int .u64 (low (10 ^ k))] 127 (0, 0))) ∧ Aside0 (Below w.heap.size w wr)) (fun v3 _ _ => 40 - (intOf v3).toNat)
 case atStart =>
  refine ⟨0, w.heap.size + 1, rfl, rfl, by omega, ⟨.inl rfl⟩, ⟨blk_alloc (blk_new w _) _⟩, ⟨?_⟩, ⟨((Below.refl _ _).alloc (Nat.le_refl _) _).alloc (by simp) _⟩⟩
  have h := blk_new (w.alloc (.cells #[.int .u64 H, .int .u64 L] 127)) (.cells #[.int .u64 0, .int .u64 1] 127)
  simpa [hiw, low] using h
 case round =>
  obtain ⟨k, b, rfl, rfl, hk, HE, BX, BP, HB⟩ := hrel
  have cx0 : wr.cell? ⟨w.heap.size, 0, none⟩ = some (.int .u64 H) := (blk_cell BX.out 0).trans rfl
  have cx1 : wr.cell? ⟨w.heap.size, 1, none⟩ = some (.int .u64 L) := (blk_cell BX.out 1).trans rfl
  obtain ⟨P0, e0⟩ : ∃ P0, P0 = hiw (10 ^ k) := ⟨_, rfl⟩
  obtain ⟨P1, e1⟩ : ∃ P1, P1 = low (10 ^ k) := ⟨_, rfl⟩
  rw [← e0, ← e1] at BP
  have E0 := Aside0.mk e0; have E1 := Aside0.mk e1
  clear e0 e1
  have cp0 : wr.cell? ⟨b, 0, none⟩ = some (.int .u64 P0) := (blk_cell BP.out 0).trans rfl
  have cp1 : wr.cell? ⟨b, 1, none⟩ = some (.int .u64 P1) := (blk_cell BP.out 1).trans rfl
  have hcmp : reals_wide_compare.f P0 P1 H L = some (if 10 ^ k = n then 0 else if 10 ^ k < n then -1 else 1) := by
   rw [E0.out, E1.out, HH.out, HL.out]; exact cmp_is _ _
  by_cases hlt : n < 10 ^ k
  ·rw [if_neg (by omega), if_neg (by omega)] at hcmp
   have HC := Aside0.mk hcmp; have HL' := Aside0.mk hlt
   clear hcmp hlt
   go_wp2_with fail
   refine (reals_wide_compare.calls P0 P1 H L 1 _ HC.out).mono ?_
   rintro e w1 ⟨rfl, hb⟩
   have HB2 := Aside0.mk (below_step HB.out hb)
   clear hb HB
   go_wp2_with fail
   go_ret
   exact ⟨by rw [dg_is HL'.out HE.out]; rfl, HB2.out⟩
  ·obtain ⟨c, hc, hc0⟩ : ∃ c : Int, reals_wide_compare.f P0 P1 H L = some c ∧ c ≤ 0 := ⟨_, hcmp, by split <;> (try split) <;> omega⟩
   have HC := Aside0.mk hc; have HG := Aside0.mk hlt
   clear hcmp hlt hc
   by_cases h38 : k = 38
   ·subst h38
    go_wp2_with fail
    refine (reals_wide_compare.calls P0 P1 H L c _ HC.out).mono ?_
    rintro e w1 ⟨rfl, hb⟩
    have HB2 := Aside0.mk (below_step HB.out hb)
    clear hb HB
    go_wp2_with fail
    go_ret
    have h39 : dg n = 39 := dg_is (by have := HN.out; omega) (.inr (by have := HG.out; omega))
    exact ⟨by rw [h39]; rfl, HB2.out⟩
   ·have hp := p38 (show k + 1 ≤ 38 by omega)
    have hT : reals_wide_times.f P0 P1 10 = some (hiw (10 ^ (k + 1)), low (10 ^ (k + 1))) := by
     rw [E0.out, E1.out, Nat.pow_succ]
     exact times_is (c := 10) (by rw [← Nat.pow_succ]; omega) (by have := p38 (show k ≤ 38 by omega); omega) (by decide)
    have HT := Aside0.mk hT
    clear hp hT
    go_wp2_with fail
    refine (reals_wide_compare.calls P0 P1 H L c _ HC.out).mono ?_
    rintro e w1 ⟨rfl, hb⟩
    have HB2 := Aside0.mk (below_step HB.out hb)
    have BX2 := Aside0.mk (blk_below BX.out hb)
    have dp0 : w1.cell? ⟨b, 0, none⟩ = some (.int .u64 P0) := (hb.cell (blk_lt BP.out)).trans cp0
    have dp1 : w1.cell? ⟨b, 1, none⟩ = some (.int .u64 P1) := (hb.cell (blk_lt BP.out)).trans cp1
    have hsz : Aside0 (w.heap.size < w1.heap.size) := ⟨Nat.lt_of_lt_of_le (blk_lt BX.out) hb.size⟩
    clear hb HB BX cx0 cx1 cp0 cp1 BP
    go_wp2_with fail
    obtain ⟨Q0, f0⟩ : ∃ Q0, Q0 = hiw (10 ^ (k + 1)) := ⟨_, rfl⟩
    obtain ⟨Q1, f1⟩ : ∃ Q1, Q1 = low (10 ^ (k + 1)) := ⟨_, rfl⟩
    have HT2 : Aside0 (reals_wide_times.f P0 P1 10 = some (Q0, Q1)) := ⟨by rw [f0, f1]; exact HT.out⟩
    have F0 := Aside0.mk f0; have F1 := Aside0.mk f1
    clear f0 f1 HT
    refine (reals_wide_times.calls P0 P1 10 Q0 Q1 _ HT2.out).mono ?_
    rintro e w2 ⟨rfl, hb⟩
    have HB3 := Aside0.mk (below_step (below_alloc HB2.out _) hb)
    have BX3 := Aside0.mk (blk_below (blk_alloc BX2.out _) hb)
    have BN := Aside0.mk (blk_below (blk_new w1 (.cells #[.int .u64 P0, .int .u64 P1] 127)) hb)
    have cn0 : w2.cell? ⟨w1.heap.size, 0, none⟩ = some (.int .u64 P0) := (blk_cell BN.out 0).trans rfl
    have cn1 : w2.cell? ⟨w1.heap.size, 1, none⟩ = some (.int .u64 P1) := (blk_cell BN.out 1).trans rfl
    have fn0 := blk_frozen BN.out 0
    have fn1 := blk_frozen BN.out 1
    clear hb HB2 BX2 dp0 dp1
    go_wp2_with fail
    go_roundw
    case rel =>
     refine ⟨k + 1, w1.heap.size, by go_num, rfl, by omega, ⟨.inr (by have := HG.out; rw [Nat.add_sub_cancel]; omega)⟩, ⟨blk_far (blk_far BX3.out (Nat.ne_of_lt hsz.out) _) (Nat.ne_of_lt hsz.out) _⟩, ⟨?_⟩, ⟨below_set (below_set HB3.out (Nat.le_of_lt hsz.out)) (Nat.le_of_lt hsz.out)⟩⟩
     rw [← F0.out, ← F1.out]
     exact blk_put (blk_put BN.out 0 _ rfl) 1 _ rfl
    case measure => simp [intOf]; omega
theorem reals_wide_digits.calls (a0_0 : Int) (a0_1 : Int) (r : Int) (w : World) (h : reals_wide_digits.f a0_0 a0_1 = some r) :
  Calls Tryz.prog 112 #[.agg #[.int .u64 a0_0, .int .u64 a0_1]] w fun e w' => e = .returned (.int .i64 r) ∧ Below w.heap.size w w' := by
 unfold reals_wide_digits.f at h
 by_cases hc : U64 a0_0 ∧ U64 a0_1
 ·rw [if_pos hc] at h
  obtain ⟨n, rfl, rfl, hn⟩ := hl_of hc.1 hc.2
  rw [wv_hl] at h
  cases h
  exact digits_calls n hn w
 ·rw [if_neg hc] at h; cases h

/-! ### reals_Valid: function 77 -/
def reals_Valid.j0 : Nat → Int → Bool → Int → Int → Option (Bool)
 | 0, _, _, _, _ => none
 | k + 1, x5, x22, x136000, x136001 => if x22 = true then (some false) else ((reals_magnitude.f x136000).bind fun bt138 => ((reals_wide_digits.f bt138.1 bt138.2).bind fun t140 => (some (decide ((wrap64 (t140 + (mx (wrap64 (x136001 - 400)) 0))) ≤ x5)))))
def reals_Valid.f (k : Nat) (a0 : Int) (a1_0 : Int) (a1_1 : Int) : Option (Bool) := (reals_Digits.f a0).bind fun bt136 => (if bt136.2 = 0 then (if a1_0 = 0 then (some (a1_1 == 0)) else (if (Int.tmod a1_0 10) = 0 then (reals_Valid.j0 k bt136.1 true a1_0 a1_1) else (if a1_1 < (-400) then (reals_Valid.j0 k bt136.1 true a1_0 a1_1) else (reals_Valid.j0 k bt136.1 (decide (a1_1 > (wrap64 (400 + bt136.1)))) a1_0 a1_1)))) else (some false))
theorem reals_Valid.mono_l : ∀ k, (∀ y0 y1 y2 y3, LeO (reals_Valid.j0 k y0 y1 y2 y3) (reals_Valid.j0 (k + 1) y0 y1 y2 y3))
 | 0 => fun _ _ _ _ r h => by simp [reals_Valid.j0] at h
 | k + 1 => by
  have ih0 := reals_Valid.mono_l k
  ·intro y0 y1 y2 y3
   unfold reals_Valid.j0
   repeat' first
   | (with_reducible exact ih0 _ _ _ _)
   | (with_reducible exact LeO.refl _)
   | (with_reducible exact LeO.none _)
   | (with_reducible refine LeO.ite ?_ ?_)
   | (with_reducible refine LeO.bind ?_ (fun _ => ?_))
   | exact ih0 _ _ _ _
   | exact LeO.none _
   | refine LeO.ite ?_ ?_
   | refine LeO.bind ?_ (fun _ => ?_)
theorem reals_Valid.mono : ∀ a0 a1 a2 k, LeO (reals_Valid.f k a0 a1 a2) (reals_Valid.f (k + 1) a0 a1 a2) := by
 intro a0 a1 a2 k
 have ih0 := reals_Valid.mono_l k
 unfold reals_Valid.f
 repeat' first
   | (with_reducible exact ih0 _ _ _ _)
   | (with_reducible exact LeO.refl _)
   | (with_reducible exact LeO.none _)
   | (with_reducible refine LeO.ite ?_ ?_)
   | (with_reducible refine LeO.bind ?_ (fun _ => ?_))
   | exact ih0 _ _ _ _
   | exact LeO.none _
   | refine LeO.ite ?_ ?_
   | refine LeO.bind ?_ (fun _ => ?_)
def reals_Valid.T8 : Bool × List (List Nat × List Nat) := (true, [([], []), ([0], [0]), ([1], [1]), ([2, 2], [2]), ([], []), ([4], [4]), ([5], [5]), ([6], [6]), ([3, 7], [3, 7]), ([], []), ([8, 9], [8, 9]), ([10, 3, 0, 1, 2, 3, 4, 5, 6, 7, 8, 9, 10], [10])])
def reals_Valid.B8 : List Nat := [0, 1, 3, 7, 0, 16, 48, 112, 255, 0, 1023, 2047]
theorem reals_Valid.tab8 : rtab .any (opsOf Tryz.f77 8) = reals_Valid.T8 := by kernel_rfl
theorem reals_Valid.bits8 : waitsOk reals_Valid.T8.2 reals_Valid.B8 = true := by kernel_rfl
set_option maxHeartbeats 8000000 in
set_option maxRecDepth 100000 in
theorem reals_Valid.calls (k : Nat) (a0 : Int) (a1_0 : Int) (a1_1 : Int) (r : Bool) (w : World) (h : reals_Valid.f k a0 a1_0 a1_1 = some r) :
  Calls Tryz.prog 77 #[.int .i64 a0, .agg #[.int .i64 a1_0, .int .i64 a1_1]] w fun e w' => e = .returned (.bool r) ∧ Below w.heap.size w w' := by
 have hu23 := Tryz.underlying23
 have HB := Aside0.mk (Below.refl w.heap.size w)
 have H : ((reals_Digits.f a0).bind fun bt136 => (if bt136.2 = 0 then (if a1_0 = 0 then (some (a1_1 == 0)) else (if (Int.tmod a1_0 10) = 0 then (reals_Valid.j0 k bt136.1 true a1_0 a1_1) else (if a1_1 < (-400) then (reals_Valid.j0 k bt136.1 true a1_0 a1_1) else (reals_Valid.j0 k bt136.1 (decide (a1_1 > (wrap64 (400 + bt136.1)))) a1_0 a1_1)))) else (some false))) = some r := h
 clear h
 replace H := Option.bind_eq_some_iff.mp H
 obtain ⟨⟨t136, t137⟩, A30, H⟩ := H
 replace H : (if t137 = 0 then (if a1_0 = 0 then (some (a1_1 == 0)) else (if (Int.tmod a1_0 10) = 0 then (reals_Valid.j0 k t136 true a1_0 a1_1) else (if a1_1 < (-400) then (reals_Valid.j0 k t136 true a1_0 a1_1) else (reals_Valid.j0 k t136 (decide (a1_1 > (wrap64 (400 + t136)))) a1_0 a1_1)))) else (some false)) = some r := H
 have A3 := Aside0.mk A30
 clear A30
 by_cases c4 : t137 = 0
 ·rw [if_pos c4] at H
  have c4b0 : (t137 == 0) = true := beq_iff_eq.mpr c4
  have c4b1 : (t137 != 0) = false := bne_eq_false_iff_eq.mpr c4
  clear c4
  by_cases c5 : a1_0 = 0
  ·rw [if_pos c5] at H
   have c5b0 : (a1_0 == 0) = true := beq_iff_eq.mpr c5
   have c5b1 : (a1_0 != 0) = false := bne_eq_false_iff_eq.mpr c5
   clear c5
   obtain rfl := Option.some.inj H
   go_enter Tryz.func77, Tryz.ntmps77
   go_wp2_with (first | ((with_reducible refine gate_dst (N := 3) rfl ?_); refine box_event ?hg (N := 3) ?hd (cs := #[.int .i64 a1_0, .int .i64 a1_1]) (t := 23) ?hr ?_; (case hd => rfl); (case hg => rfl); (case hr => first | (go_simp; done) | (go_simp; rfl)); intro gb135 hg w6 hbox hb; have BK135 := Aside0.mk (hbox); have GW135 := Aside0.mk (bs HB hg : w.heap.size ≤ gb135); replace HB := Aside0.mk (below_step (bw HB) hb); clear hb hbox hg) | ((with_reducible refine gate_callee (f := 106) rfl ?_); refine goesL_ (some 9) rfl rfl Tryz.func106 (by kernel_rfl) rfl #[.int .i64 a0] rfl (by (try simp only [List.map_toArray, List.map_cons, List.map_nil]); first | done | rfl | (simp only [List.length_drop, List.length_take]; rfl)) ?_; (with_reducible refine (reals_Digits.calls a0 t136 t137 _ A3.out).mono ?_); rintro e w' ⟨rfl, ⟨nd, rfl⟩⟩; refine ⟨_, rfl, ?_⟩; obtain ⟨hcz7_0, hcz7_1, hfz7_0, hfz7_1⟩ := cf2 BK135))
   go_ret
   exact ⟨by first | rfl | (simp [errW_none, errW_some] <;> rfl) | (simp [*, errW_none, errW_some] <;> rfl), bw HB⟩
  ·rw [if_neg c5] at H
   have c5b0 : (a1_0 == 0) = false := beq_eq_false_iff_ne.mpr c5
   have c5b1 : (a1_0 != 0) = true := bne_iff_ne.mpr c5
   have HC8 := Aside0.mk H
   clear H
   go_enter Tryz.func77, Tryz.ntmps77
   go_upto_region 6 with (first | ((with_reducible refine gate_dst (N := 3) rfl ?_); refine box_event ?hg (N := 3) ?hd (cs := #[.int .i64 a1_0, .int .i64 a1_1]) (t := 23) ?hr ?_; (case hd => rfl); (case hg => rfl); (case hr => first | (go_simp; done) | (go_simp; rfl)); intro gb135 hg w9 hbox hb; have BK135 := Aside0.mk (hbox); have GW135 := Aside0.mk (bs HB hg : w.heap.size ≤ gb135); replace HB := Aside0.mk (below_step (bw HB) hb); clear hb hbox hg) | ((with_reducible refine gate_callee (f := 106) rfl ?_); refine goesL_ (some 9) rfl rfl Tryz.func106 (by kernel_rfl) rfl #[.int .i64 a0] rfl (by (try simp only [List.map_toArray, List.map_cons, List.map_nil]); first | done | rfl | (simp only [List.length_drop, List.length_take]; rfl)) ?_; (with_reducible refine (reals_Digits.calls a0 t136 t137 _ A3.out).mono ?_); rintro e w' ⟨rfl, ⟨nd, rfl⟩⟩; refine ⟨_, rfl, ?_⟩; obtain ⟨hcz10_0, hcz10_1, hfz10_0, hfz10_1⟩ := cf2 BK135))
   (try simp only [sx])
   go_cut [22] (fun v22 wc => ∃ (kq : Nat) (x22_7 : Bool), v22 = .bool x22_7 ∧ Aside0 (reals_Valid.j0 kq t136 x22_7 a1_0 a1_1 = some r) ∧ Aside0 (kq ≤ k) ∧ Aside0 (wc.heap[gb135]? = some (.cells #[.int .i64 a1_0, .int .i64 a1_1] 23 (0, 0))) ∧ Aside0 (Below w.heap.size w wc))
   case first =>
    have H := HC8.out
    clear HC8
    by_cases c11 : (Int.tmod a1_0 10) = 0
    ·rw [if_pos c11] at H
     have c11b0 : ((Int.tmod a1_0 10) == 0) = true := beq_iff_eq.mpr c11
     have c11b1 : ((Int.tmod a1_0 10) != 0) = false := bne_eq_false_iff_eq.mpr c11
     clear c11
     (first | rw [c11b0] | (simp only [i64_w, i32_w]; rw [c11b0]) | skip)
     have H' := Aside0.mk H
     clear H
     obtain ⟨hcz12_0, hcz12_1, hfz12_0, hfz12_1⟩ := cf2 BK135
     go_wp2
     go_meet
     case rel => exact ⟨_, (true), (by first | rfl | (simp; done) | (simp [*]; done)), H', ⟨by first | omega | exact Nat.le_refl _⟩, ⟨by (with_reducible repeat (first | refine blk_drewN ?_ _ | refine blk_drew ?_ | refine blk_alloc ?_ _)); exact BK135.out⟩, ⟨bw HB⟩⟩
    ·rw [if_neg c11] at H
     have c11b0 : ((Int.tmod a1_0 10) == 0) = false := beq_eq_false_iff_ne.mpr c11
     have c11b1 : ((Int.tmod a1_0 10) != 0) = true := bne_iff_ne.mpr c11
     (first | rw [c11b0] | (simp only [i64_w, i32_w]; rw [c11b0]) | skip)
     by_cases c13 : a1_1 < (-400)
     ·rw [if_pos c13] at H
      have c13b0 : decide (a1_1 < (-400)) = true := decide_eq_true c13
      clear c13
      have H' := Aside0.mk H
      clear H
      obtain ⟨hcz14_0, hcz14_1, hfz14_0, hfz14_1⟩ := cf2 BK135
      go_wp2
      go_meet
      case rel => exact ⟨_, (true), (by first | rfl | (simp; done) | (simp [*]; done)), H', ⟨by first | omega | exact Nat.le_refl _⟩, ⟨by (with_reducible repeat (first | refine blk_drewN ?_ _ | refine blk_drew ?_ | refine blk_alloc ?_ _)); exact BK135.out⟩, ⟨bw HB⟩⟩
     ·rw [if_neg c13] at H
      have c13b0 : decide (a1_1 < (-400)) = false := decide_eq_false c13
      clear c13
      have H' := Aside0.mk H
      clear H
      obtain ⟨hcz15_0, hcz15_1, hfz15_0, hfz15_1⟩ := cf2 BK135
      go_wp2
      go_meet
      case rel => exact ⟨_, (decide (a1_1 > (wrap64 (400 + t136)))), (by first | rfl | (simp; done) | (simp [*]; done)), H', ⟨by first | omega | exact Nat.le_refl _⟩, ⟨by (with_reducible repeat (first | refine blk_drewN ?_ _ | refine blk_drew ?_ | refine blk_alloc ?_ _)); exact BK135.out⟩, ⟨bw HB⟩⟩
   case rest =>
    clear HC8
    try clear c1
    try clear p2
    try clear c4
    try clear c4b0
    try clear c4b1
    try clear c5
    try clear c5b0
    try clear c5b1
    try clear p6
    try clear c7
    try clear c10
    try clear c11
    try clear c11b0
    try clear c11b1
    try clear c13
    try clear c13b0
    try clear hcz10_0
    try clear hcz10_1
    try clear hcz12_0
    try clear hcz12_1
    try clear hcz14_0
    try clear hcz14_1
    try clear hcz15_0
    try clear hcz15_1
    try clear hcz7_0
    try clear hcz7_1
    try clear hfz10_0
    try clear hfz10_1
    try clear hfz12_0
    try clear hfz12_1
    try clear hfz14_0
    try clear hfz14_1
    try clear hfz15_0
    try clear hfz15_1
    try clear hfz7_0
    try clear hfz7_1
    obtain ⟨kq, x22_7, rfl, HA, HJ7, BK135, HB⟩ := hcut
    cases kq with
    | zero => exact absurd HA.out (by simp [reals_Valid.j0])
    | succ kj7 =>
     have H := HA.out
     clear HA
     simp only [reals_Valid.j0] at H
     by_cases c16 : x22_7 = true
     ·subst c16
      have H1 : (some false) = some r := by rw [if_pos rfl] at H; exact H
      clear H
      have H := H1
      clear H1
      obtain rfl := Option.some.inj H
      go_wp2
      go_ret
      exact ⟨by first | rfl | (simp [errW_none, errW_some] <;> rfl) | (simp [*, errW_none, errW_some] <;> rfl), bw HB⟩
     ·replace c16 := Bool.eq_false_iff.mpr c16
      subst c16
      have H1 : ((reals_magnitude.f a1_0).bind fun bt138 => ((reals_wide_digits.f bt138.1 bt138.2).bind fun t140 => (some (decide ((wrap64 (t140 + (mx (wrap64 (a1_1 - 400)) 0))) ≤ t136))))) = some r := by rw [if_neg (show ¬ (false = true) by decide)] at H; exact H
      clear H
      have H := H1
      clear H1
      replace H := Option.bind_eq_some_iff.mp H
      obtain ⟨⟨t138, t139⟩, A170, H⟩ := H
      replace H : ((reals_wide_digits.f t138 t139).bind fun t140 => (some (decide ((wrap64 (t140 + (mx (wrap64 (a1_1 - 400)) 0))) ≤ t136)))) = some r := H
      have A17 := Aside0.mk A170
      clear A170
      replace H := Option.bind_eq_some_iff.mp H
      obtain ⟨t140, A180, H⟩ := H
      replace H : (some (decide ((wrap64 (t140 + (mx (wrap64 (a1_1 - 400)) 0))) ≤ t136))) = some r := H
      have A18 := Aside0.mk A180
      clear A180
      obtain ⟨ji19, hji19⟩ : ∃ j_ : Int, (mx (wrap64 (a1_1 - 400)) 0) = j_ := ⟨_, rfl⟩
      replace H : (some (decide ((wrap64 (t140 + (ji19))) ≤ t136))) = some r := by first | (rw [hji19] at H; exact H) | (simp only [hji19] at H ⊢; exact H)
      (try rw [hji19] at A17)
      (try rw [hji19] at A18)
      have hji19_ : (if (wrap64 (a1_1 - 400)) < 0 then 0 else (wrap64 (a1_1 - 400))) = ji19 := hji19
      obtain rfl := Option.some.inj H
      try go_wp2
      replace BK135 := Aside0.mk (blk_drew BK135.out)
      replace HB := Aside0.mk (below_drew1 HB.out)
      refine start_ (n := 12) (S := fun w' => w'.cell? ⟨gb135, 0, none⟩ = some (.int .i64 a1_0) ∧ w'.cell? ⟨gb135, 1, none⟩ = some (.int .i64 a1_1)) (ds := []) #[false, false, false, false, false, false, false, false, false, false, false, false] (by kernel_rfl) rfl rfl ⟨(blk_cell BK135.out 0).trans rfl, (blk_cell BK135.out 1).trans rfl⟩ (fun hHeld => ?_); refine with_tabW reals_Valid.tab8 reals_Valid.bits8 (fun HT_ HW_ => ?_)
      generalize wc.drew = w20 at BK135 HB hHeld ⊢
      refine pu 0 39 (bl 12 1) HT_ ?_
      refine pu 4 43 (bl 12 17) HT_ ?_
      refine pu 9 48 (bl 12 529) HT_ ?_
      refine ta 1 40 (bl 12 531) HT_ HW_ hHeld ?_
      refine ta 5 44 (bl 12 563) HT_ HW_ hHeld ?_
      refine pu 6 45 (bl 12 627) HT_ ?_
      refine pu 7 46 (bl 12 755) HT_ ?_
      refine one_ (i := 2) (N := some 41) #[true, true, true, false, true, true, true, true, false, true, false, false] rfl rfl (one_of HT_.out (by kernel_rfl)) (by decide) (fun K hK => ?_)
      refine goes_ Tryz.func111 (by kernel_rfl) rfl #[.int .i64 a1_0] (by rfl) rfl rfl (by (try simp only [List.map_toArray, List.map_cons, List.map_nil]); first | done | rfl | (simp only [List.length_drop, List.length_take]; rfl)) ?_
      with_reducible refine (reals_magnitude.calls a1_0 t138 t139 _ A17.out).mono ?_
      rintro e w21 ⟨rfl, hb⟩
      refine ⟨_, rfl, ?_⟩
      replace BK135 := Aside0.mk (bb BK135 hb)
      replace HB := Aside0.mk (below_step (bw HB) hb)
      (try clear hb)
      (try clear hb2)
      (try clear hk)
      (try clear hi)
      refine hK.out _ _ ⟨(blk_cell BK135.out 0).trans rfl, (blk_cell BK135.out 1).trans rfl⟩ (fun hHeld => ?_)
      clear hK K
      refine norm_ (a' := ?_) ?_ ?_
      rotate_left
      ·show Act.put _ (some 41) _ = _
       simp only [sx, i64_w, i32_w]
       rfl
      refine one_ (i := 3) (N := some 42) #[true, true, true, true, true, true, true, true, false, true, false, false] rfl rfl (one_of HT_.out (by kernel_rfl)) (by decide) (fun K hK => ?_)
      refine goes_ Tryz.func112 (by kernel_rfl) rfl #[.agg #[.int .u64 t138, .int .u64 t139]] (by rfl) rfl rfl (by (try simp only [List.map_toArray, List.map_cons, List.map_nil]); first | done | rfl | (simp only [List.length_drop, List.length_take]; rfl)) ?_
      with_reducible refine (reals_wide_digits.calls t138 t139 t140 _ A18.out).mono ?_
      rintro e w22 ⟨rfl, hb⟩
      refine ⟨_, rfl, ?_⟩
      replace BK135 := Aside0.mk (bb BK135 hb)
      replace HB := Aside0.mk (below_step (bw HB) hb)
      (try clear hb)
      (try clear hb2)
      (try clear hk)
      (try clear hi)
      refine hK.out _ _ ⟨(blk_cell BK135.out 0).trans rfl, (blk_cell BK135.out 1).trans rfl⟩ (fun hHeld => ?_)
      clear hK K
      refine norm_ (a' := ?_) ?_ ?_
      rotate_left
      ·show Act.put _ (some 42) _ = _
       simp only [sx, i64_w, i32_w]
       rfl
      refine pu 8 47 (bl 12 1023) HT_ ?_
      refine pu 10 49 (bl 12 2047) HT_ ?_
      refine pu 11 4 (bl 12 4095) HT_ ?_
      refine done_ (done_of HT_.out (by kernel_rfl)) ?_
      try go_wp2
      go_ret
      exact ⟨by first | rfl | (simp [errW_none, errW_some] <;> rfl) | (simp only [← hji19]; first | rfl | (simp [errW_none, errW_some] <;> rfl)) | (simp [*, errW_none, errW_some] <;> rfl), bw HB⟩
 ·rw [if_neg c4] at H
  have c4b0 : (t137 == 0) = false := beq_eq_false_iff_ne.mpr c4
  have c4b1 : (t137 != 0) = true := bne_iff_ne.mpr c4
  obtain rfl := Option.some.inj H
  go_enter Tryz.func77, Tryz.ntmps77
  go_wp2_with (first | ((with_reducible refine gate_dst (N := 3) rfl ?_); refine box_event ?hg (N := 3) ?hd (cs := #[.int .i64 a1_0, .int .i64 a1_1]) (t := 23) ?hr ?_; (case hd => rfl); (case hg => rfl); (case hr => first | (go_simp; done) | (go_simp; rfl)); intro gb135 hg w23 hbox hb; have BK135 := Aside0.mk (hbox); have GW135 := Aside0.mk (bs HB hg : w.heap.size ≤ gb135); replace HB := Aside0.mk (below_step (bw HB) hb); clear hb hbox hg) | ((with_reducible refine gate_callee (f := 106) rfl ?_); refine goesL_ (some 9) rfl rfl Tryz.func106 (by kernel_rfl) rfl #[.int .i64 a0] rfl (by (try simp only [List.map_toArray, List.map_cons, List.map_nil]); first | done | rfl | (simp only [List.length_drop, List.length_take]; rfl)) ?_; (with_reducible refine (reals_Digits.calls a0 t136 t137 _ A3.out).mono ?_); rintro e w' ⟨rfl, ⟨nd, rfl⟩⟩; refine ⟨_, rfl, ?_⟩))
  go_ret
  exact ⟨by first | rfl | (simp [errW_none, errW_some] <;> rfl) | (simp [*, errW_none, errW_some] <;> rfl), bw HB⟩

/-! ### reals_check: function 134 -/
mutual
def reals_check.j0 : Nat → Int → List (S23) → Int → Bool → Option (Int × Int)
 | 0, _, _, _, _ => none
 | k + 1, x0, x2, x8, x26 => if x26 = true then (some (0, 1)) else (reals_check.l0 k x0 x8 x2 (x2.length : Int) 0)
def reals_check.l0 : Nat → Int → Int → List (S23) → Int → Int → Option (Int × Int)
 | 0, _, _, _, _, _ => none
 | k + 1, x0, x8, x27, x28, x29 => if x29 < x28 then (if 0 ≤ x29 then (if x29 < (x27.length : Int) then ((reals_Valid.f k x0 ((rd_T23 x27 x29).f0) ((rd_T23 x27 x29).f1)).bind fun t201 => (if t201 = true then (reals_check.l0 k x0 x8 x27 x28 (wrap64 (x29 + 1))) else (some (0, 11)))) else (none)) else (none)) else (some (x8, 0))
end
def reals_check.f (k : Nat) (a0 : Int) (a1 : Int) (l2 : List (S23)) : Option (Int × Int) := (reals_Digits.f a0).bind fun bt197 => (if bt197.2 = 0 then (if a1 < 0 then (reals_check.j0 k a0 l2 bt197.1 true) else (reals_check.j0 k a0 l2 bt197.1 (decide (a1 > 3)))) else (reals_check.j0 k a0 l2 bt197.1 true))
theorem reals_check.mono_l : ∀ k, (∀ y0 y1 y2 y3, LeO (reals_check.j0 k y0 y1 y2 y3) (reals_check.j0 (k + 1) y0 y1 y2 y3)) ∧ (∀ y0 y1 y2 y3 y4, LeO (reals_check.l0 k y0 y1 y2 y3 y4) (reals_check.l0 (k + 1) y0 y1 y2 y3 y4))
 | 0 => ⟨fun _ _ _ _ r h => by simp [reals_check.j0] at h, fun _ _ _ _ _ r h => by simp [reals_check.l0] at h⟩
 | k + 1 => by
  obtain ⟨ih0, ih1⟩ := reals_check.mono_l k
  refine ⟨?_, ?_⟩
  ·intro y0 y1 y2 y3
   unfold reals_check.j0
   repeat' first
   | (with_reducible exact ih0 _ _ _ _)
   | (with_reducible exact ih1 _ _ _ _ _)
   | (with_reducible exact reals_Valid.mono _ _ _ _)
   | (with_reducible exact LeO.refl _)
   | (with_reducible exact LeO.none _)
   | (with_reducible refine LeO.ite ?_ ?_)
   | (with_reducible refine LeO.bind ?_ (fun _ => ?_))
   | exact ih0 _ _ _ _
   | exact ih1 _ _ _ _ _
   | exact reals_Valid.mono _ _ _ _
   | exact LeO.none _
   | refine LeO.ite ?_ ?_
   | refine LeO.bind ?_ (fun _ => ?_)
  ·intro y0 y1 y2 y3 y4
   unfold reals_check.l0
   repeat' first
   | (with_reducible exact ih0 _ _ _ _)
   | (with_reducible exact ih1 _ _ _ _ _)
   | (with_reducible exact reals_Valid.mono _ _ _ _)
   | (with_reducible exact LeO.refl _)
   | (with_reducible exact LeO.none _)
   | (with_reducible refine LeO.ite ?_ ?_)
   | (with_reducible refine LeO.bind ?_ (fun _ => ?_))
   | exact ih0 _ _ _ _
   | exact ih1 _ _ _ _ _
   | exact reals_Valid.mono _ _ _ _
   | exact LeO.none _
   | refine LeO.ite ?_ ?_
   | refine LeO.bind ?_ (fun _ => ?_)
theorem reals_check.mono : ∀ a0 a1 a2 k, LeO (reals_check.f k a0 a1 a2) (reals_check.f (k + 1) a0 a1 a2) := by
 intro a0 a1 a2 k
 obtain ⟨ih0, ih1⟩ := reals_check.mono_l k
 unfold reals_check.f
 repeat' first
   | (with_reducible exact ih0 _ _ _ _)
   | (with_reducible exact ih1 _ _ _ _ _)
   | (with_reducible exact reals_Valid.mono _ _ _ _)
   | (with_reducible exact LeO.refl _)
   | (with_reducible exact LeO.none _)
   | (with_reducible refine LeO.ite ?_ ?_)
   | (with_reducible refine LeO.bind ?_ (fun _ => ?_))
   | exact ih0 _ _ _ _
   | exact ih1 _ _ _ _ _
   | exact reals_Valid.mono _ _ _ _
   | exact LeO.none _
   | refine LeO.ite ?_ ?_
   | refine LeO.bind ?_ (fun _ => ?_)
set_option maxHeartbeats 8000000 in
set_option maxRecDepth 100000 in
theorem reals_check.calls (k : Nat) (a0 : Int) (a1 : Int) (A2 : Option Addr) (c2 : Nat) (l2 : List (S23)) (r1 : Int) (r2 : Int) (w : World) (hr2 : Kd.C k23 w A2 l2.length l2) (hc2 : l2.length ≤ c2) (h : reals_check.f k a0 a1 l2 = some (r1, r2)) :
  Calls Tryz.prog 134 #[.int .i64 a0, .int .i64 a1, .slice A2 l2.length c2] w fun e w' => e = .returned (.tuple #[.int .i64 r1, .int .i64 r2]) ∧ Below w.heap.size w w' := by
 have hu23 := Tryz.underlying23
 have HR2 := Aside0.mk hr2
 have HC2 := Aside0.mk hc2
 clear hr2 hc2
 have HB := Aside0.mk (Below.refl w.heap.size w)
 have H : ((reals_Digits.f a0).bind fun bt197 => (if bt197.2 = 0 then (if a1 < 0 then (reals_check.j0 k a0 l2 bt197.1 true) else (reals_check.j0 k a0 l2 bt197.1 (decide (a1 > 3)))) else (reals_check.j0 k a0 l2 bt197.1 true))) = some (r1, r2) := h
 clear h
 replace H := Option.bind_eq_some_iff.mp H
 obtain ⟨⟨t197, t198⟩, A40, H⟩ := H
 replace H : (if t198 = 0 then (if a1 < 0 then (reals_check.j0 k a0 l2 t197 true) else (reals_check.j0 k a0 l2 t197 (decide (a1 > 3)))) else (reals_check.j0 k a0 l2 t197 true)) = some (r1, r2) := H
 have A4 := Aside0.mk A40
 clear A40
 have HC5 := Aside0.mk H
 clear H
 go_enter Tryz.func134, Tryz.ntmps134
 go_upto_region 2 with (first | ((with_reducible refine gate_callee (f := 106) rfl ?_); refine goesL_ (some 14) rfl rfl Tryz.func106 (by kernel_rfl) rfl #[.int .i64 a0] rfl (by (try simp only [List.map_toArray, List.map_cons, List.map_nil]); first | done | rfl | (simp only [List.length_drop, List.length_take]; rfl)) ?_; (with_reducible refine (reals_Digits.calls a0 t197 t198 _ A4.out).mono ?_); rintro e w' ⟨rfl, ⟨nd, rfl⟩⟩; refine ⟨_, rfl, ?_⟩))
 (try simp only [sx])
 go_cut [26] (fun v26 wc => ∃ (kq : Nat) (x26_4 : Bool), v26 = .bool x26_4 ∧ Aside0 (reals_check.j0 kq a0 l2 t197 x26_4 = some (r1, r2)) ∧ Aside0 (kq ≤ k) ∧ Aside0 (Below w.heap.size w wc))
 case first =>
  have H := HC5.out
  clear HC5
  by_cases c6 : t198 = 0
  ·rw [if_pos c6] at H
   have c6b0 : (t198 == 0) = true := beq_iff_eq.mpr c6
   have c6b1 : (t198 != 0) = false := bne_eq_false_iff_eq.mpr c6
   clear c6
   (first | rw [c6b0] | (simp only [i64_w, i32_w]; rw [c6b0]) | skip)
   by_cases c7 : a1 < 0
   ·rw [if_pos c7] at H
    have c7b0 : decide (a1 < 0) = true := decide_eq_true c7
    clear c7
    have H' := Aside0.mk H
    clear H
    go_wp2
    go_meet
    case rel => exact ⟨_, (true), (by first | rfl | (simp; done) | (simp [*]; done)), H', ⟨by first | omega | exact Nat.le_refl _⟩, ⟨bw HB⟩⟩
   ·rw [if_neg c7] at H
    have c7b0 : decide (a1 < 0) = false := decide_eq_false c7
    clear c7
    have H' := Aside0.mk H
    clear H
    go_wp2
    go_meet
    case rel => exact ⟨_, (decide (a1 > 3)), (by first | rfl | (simp; done) | (simp [*]; done)), H', ⟨by first | omega | exact Nat.le_refl _⟩, ⟨bw HB⟩⟩
  ·rw [if_neg c6] at H
   have c6b0 : (t198 == 0) = false := beq_eq_false_iff_ne.mpr c6
   have c6b1 : (t198 != 0) = true := bne_iff_ne.mpr c6
   (first | rw [c6b0] | (simp only [i64_w, i32_w]; rw [c6b0]) | skip)
   have H' := Aside0.mk H
   clear H
   go_wp2
   go_meet
   case rel => exact ⟨_, (true), (by first | rfl | (simp; done) | (simp [*]; done)), H', ⟨by first | omega | exact Nat.le_refl _⟩, ⟨bw HB⟩⟩
 case rest =>
  clear HC5
  try clear c1
  try clear c2
  try clear p2
  try clear c6
  try clear c6b0
  try clear c6b1
  try clear c7
  try clear c7b0
  obtain ⟨kq, x26_4, rfl, HA, HJ4, HB⟩ := hcut
  cases kq with
  | zero => exact absurd HA.out (by simp [reals_check.j0])
  | succ kj4 =>
   have H := HA.out
   clear HA
   simp only [reals_check.j0] at H
   by_cases c8 : x26_4 = true
   ·subst c8
    have H1 : (some (0, 1)) = some (r1, r2) := by rw [if_pos rfl] at H; exact H
    clear H
    have H := H1
    clear H1
    simp only [Option.some.injEq, Prod.mk.injEq] at H
    obtain ⟨rfl, rfl⟩ := H
    go_wp2
    go_ret2
    exact ⟨by first | rfl | (simp [errW_none, errW_some] <;> rfl) | (simp [*, errW_none, errW_some] <;> rfl), bw HB⟩
   ·replace c8 := Bool.eq_false_iff.mpr c8
    subst c8
    have H1 : (reals_check.l0 kj4 a0 t197 l2 (l2.length : Int) 0) = some (r1, r2) := by rw [if_neg (show ¬ (false = true) by decide)] at H; exact H
    clear H
    have H := H1
    clear H1
    have H' := Aside0.mk H
    clear H
    go_wp2
    go_loopg [29] kj4 (fun kq v29 w' => ∃ (x29_2 : Int), v29 = .int .i64 x29_2 ∧ Aside0 (reals_check.l0 kq a0 t197 l2 (l2.length : Int) x29_2 = some (r1, r2)) ∧ Aside0 (kq ≤ kj4) ∧ Aside0 (Below w.heap.size w w'))
    case atStart => exact ⟨(0), (by first | rfl | (simp; done) | (simp [*]; done)), H', ⟨Nat.le_refl _⟩, ⟨bw HB⟩⟩
    case round =>
     clear H'
     try clear c1
     try clear c2
     try clear p2
     try clear c6
     try clear c6b0
     try clear c6b1
     try clear c7
     try clear c7b0
     try clear c8
     try clear p2
     obtain ⟨x29_2, rfl, HA, HK2, HB⟩ := hrel
     cases gk with
     | zero => exact absurd HA.out (by simp [reals_check.l0])
     | succ k2 =>
      have H := HA.out
      clear HA
      simp only [reals_check.l0] at H
      by_cases c9 : x29_2 < (l2.length : Int)
      ·rw [if_pos c9] at H
       have c9b0 : decide (x29_2 < (l2.length : Int)) = true := decide_eq_true c9
       clear c9
       by_cases c10 : 0 ≤ x29_2
       ·rw [if_pos c10] at H
        have c10b0 : decide (0 ≤ x29_2) = true := decide_eq_true c10
        clear c10
        by_cases c11 : x29_2 < (l2.length : Int)
        ·rw [if_pos c11] at H
         have c11b0 : decide (x29_2 < (l2.length : Int)) = true := decide_eq_true c11
         clear c11
         replace H := Option.bind_eq_some_iff.mp H
         obtain ⟨t201, A120, H⟩ := H
         replace H : (if t201 = true then (reals_check.l0 k2 a0 t197 l2 (l2.length : Int) (wrap64 (x29_2 + 1))) else (some (0, 11))) = some (r1, r2) := H
         have A12 := Aside0.mk A120
         clear A120
         by_cases c13 : t201 = true
         ·subst c13
          have H1 : (reals_check.l0 k2 a0 t197 l2 (l2.length : Int) (wrap64 (x29_2 + 1))) = some (r1, r2) := by rw [if_pos rfl] at H; exact H
          clear H
          have H := H1
          clear H1
          have H' := Aside0.mk H
          clear H
          have p199 : 0 ≤ (x29_2 : Int) := of_decide_eq_true (by first | (with_reducible assumption) | assumption)
          have q199 : x29_2 < (l2.length : Int) := of_decide_eq_true (by first | (with_reducible assumption) | assumption)
          obtain ⟨ad199, e199, hx199_0, hx199_1⟩ := at_T23 HR2.out x29_2 p199 q199
          cases e199
          replace hx199_0 := (HB.out.cell (World.block_lt_of_cell? w _ hx199_0)).trans hx199_0
          replace hx199_1 := (HB.out.cell (World.block_lt_of_cell? w _ hx199_1)).trans hx199_1
          replace p199 := eq_true p199
          replace q199 := eq_true q199
          go_wp2_with (first | ((with_reducible refine gate_dst (N := 11) rfl ?_); refine box_event ?hg (N := 11) ?hd (cs := #[.int .i64 0, .int .i64 0]) (t := 23) ?hr ?_; (case hd => rfl); (case hg => rfl); (case hr => first | (go_simp; done) | (go_simp; rfl)); intro gb200 hg w14 hbox hb; have BK200 := Aside0.mk (hbox); have GW200 := Aside0.mk (bs HB hg : w.heap.size ≤ gb200); replace HB := Aside0.mk (below_step (bw HB) hb); clear hb hbox hg; obtain ⟨hcz15_0, hcz15_1, hfz15_0, hfz15_1⟩ := cf2 BK200) | ((with_reducible refine gate_callee (f := 77) rfl ?_); refine goesL_ (some 35) rfl rfl Tryz.func77 (by kernel_rfl) rfl #[.int .i64 a0, .agg #[.int .i64 ((rd_T23 l2 x29_2).f0), .int .i64 ((rd_T23 l2 x29_2).f1)]] rfl (by (try simp only [List.map_toArray, List.map_cons, List.map_nil]); first | done | rfl | (simp only [List.length_drop, List.length_take]; rfl)) ?_; (with_reducible refine (reals_Valid.calls k2 a0 ((rd_T23 l2 x29_2).f0) ((rd_T23 l2 x29_2).f1) true _ A12.out).mono ?_); rintro e w16 ⟨rfl, hb⟩; refine ⟨_, rfl, ?_⟩; replace BK200 := Aside0.mk (blk_below (g := gb200) (o := .cells #[.int .i64 ((rd_T23 l2 x29_2).f0), .int .i64 ((rd_T23 l2 x29_2).f1)] 23 (0, 0)) (by (with_reducible repeat (first | refine blk_drewN ?_ _ | refine blk_drew ?_ | refine blk_alloc ?_ _)); refine blk_put (cs := #[.int .i64 ((rd_T23 l2 x29_2).f0), .int .i64 0]) ?_ 1 _ rfl; (with_reducible repeat (first | refine blk_drewN ?_ _ | refine blk_drew ?_ | refine blk_alloc ?_ _)); refine blk_put (cs := #[.int .i64 0, .int .i64 0]) ?_ 0 _ rfl; (with_reducible repeat (first | refine blk_drewN ?_ _ | refine blk_drew ?_ | refine blk_alloc ?_ _)); exact BK200.out) hb); replace HB := Aside0.mk (below_step (bw HB) hb); (try clear hb); (try clear hb2); (try clear hk); (try clear hi)))
          go_roundg k2
          case measure => have := HJ4.out; have := HK2.out; omega
          case rel => exact ⟨(wrap64 (x29_2 + 1)), (by first | rfl | (simp; done) | (simp [*]; done)), H', ⟨by have := HJ4.out; have := HK2.out; omega⟩, ⟨bw HB⟩⟩
         ·replace c13 := Bool.eq_false_iff.mpr c13
          subst c13
          have H1 : (some (0, 11)) = some (r1, r2) := by rw [if_neg (show ¬ (false = true) by decide)] at H; exact H
          clear H
          have H := H1
          clear H1
          simp only [Option.some.injEq, Prod.mk.injEq] at H
          obtain ⟨rfl, rfl⟩ := H
          have p199 : 0 ≤ (x29_2 : Int) := of_decide_eq_true (by first | (with_reducible assumption) | assumption)
          have q199 : x29_2 < (l2.length : Int) := of_decide_eq_true (by first | (with_reducible assumption) | assumption)
          obtain ⟨ad199, e199, hx199_0, hx199_1⟩ := at_T23 HR2.out x29_2 p199 q199
          cases e199
          replace hx199_0 := (HB.out.cell (World.block_lt_of_cell? w _ hx199_0)).trans hx199_0
          replace hx199_1 := (HB.out.cell (World.block_lt_of_cell? w _ hx199_1)).trans hx199_1
          replace p199 := eq_true p199
          replace q199 := eq_true q199
          go_wp2_with (first | ((with_reducible refine gate_dst (N := 11) rfl ?_); refine box_event ?hg (N := 11) ?hd (cs := #[.int .i64 0, .int .i64 0]) (t := 23) ?hr ?_; (case hd => rfl); (case hg => rfl); (case hr => first | (go_simp; done) | (go_simp; rfl)); intro gb200 hg w17 hbox hb; have BK200 := Aside0.mk (hbox); have GW200 := Aside0.mk (bs HB hg : w.heap.size ≤ gb200); replace HB := Aside0.mk (below_step (bw HB) hb); clear hb hbox hg; obtain ⟨hcz18_0, hcz18_1, hfz18_0, hfz18_1⟩ := cf2 BK200) | ((with_reducible refine gate_callee (f := 77) rfl ?_); refine goesL_ (some 35) rfl rfl Tryz.func77 (by kernel_rfl) rfl #[.int .i64 a0, .agg #[.int .i64 ((rd_T23 l2 x29_2).f0), .int .i64 ((rd_T23 l2 x29_2).f1)]] rfl (by (try simp only [List.map_toArray, List.map_cons, List.map_nil]); first | done | rfl | (simp only [List.length_drop, List.length_take]; rfl)) ?_; (with_reducible refine (reals_Valid.calls k2 a0 ((rd_T23 l2 x29_2).f0) ((rd_T23 l2 x29_2).f1) false _ A12.out).mono ?_); rintro e w19 ⟨rfl, hb⟩; refine ⟨_, rfl, ?_⟩; replace BK200 := Aside0.mk (blk_below (g := gb200) (o := .cells #[.int .i64 ((rd_T23 l2 x29_2).f0), .int .i64 ((rd_T23 l2 x29_2).f1)] 23 (0, 0)) (by (with_reducible repeat (first | refine blk_drewN ?_ _ | refine blk_drew ?_ | refine blk_alloc ?_ _)); refine blk_put (cs := #[.int .i64 ((rd_T23 l2 x29_2).f0), .int .i64 0]) ?_ 1 _ rfl; (with_reducible repeat (first | refine blk_drewN ?_ _ | refine blk_drew ?_ | refine blk_alloc ?_ _)); refine blk_put (cs := #[.int .i64 0, .int .i64 0]) ?_ 0 _ rfl; (with_reducible repeat (first | refine blk_drewN ?_ _ | refine blk_drew ?_ | refine blk_alloc ?_ _)); exact BK200.out) hb); replace HB := Aside0.mk (below_step (bw HB) hb); (try clear hb); (try clear hb2); (try clear hk); (try clear hi)))
          go_ret2
          exact ⟨by first | rfl | (simp [errW_none, errW_some] <;> rfl) | (simp [*, errW_none, errW_some] <;> rfl), bw HB⟩
        ·rw [if_neg c11] at H
         exact absurd H (by simp)
       ·rw [if_neg c10] at H
        exact absurd H (by simp)
      ·rw [if_neg c9] at H
       have c9b0 : decide (x29_2 < (l2.length : Int)) = false := decide_eq_false c9
       clear c9
       simp only [Option.some.injEq, Prod.mk.injEq] at H
       obtain ⟨rfl, rfl⟩ := H
       go_wp2
       go_ret2
       exact ⟨by first | rfl | (simp [errW_none, errW_some] <;> rfl) | (simp [*, errW_none, errW_some] <;> rfl), bw HB⟩

/-! ### reals_of: function 135 -/
def reals_of.f (a0_0 : Int) (a0_1 : Int) : Option (Bool × Int × Int × Int × Bool) := (reals_magnitude.f a0_0).bind fun bt204 => (some (decide (a0_0 < 0), bt204.1, bt204.2, a0_1, false))
def reals_of.T1 : Bool × List (List Nat × List Nat) := (true, [([], []), ([0], [0]), ([1], [1]), ([], []), ([3], [3]), ([4], [4]), ([], []), ([6], [6]), ([2, 5, 7], [2, 5, 7]), ([8, 5, 0, 1, 2, 3, 4, 5, 6, 7, 8], [8])])
def reals_of.B1 : List Nat := [0, 1, 3, 0, 8, 24, 0, 64, 255, 511]
theorem reals_of.tab1 : rtab .any (opsOf Tryz.f135 1) = reals_of.T1 := by kernel_rfl
theorem reals_of.bits1 : waitsOk reals_of.T1.2 reals_of.B1 = true := by kernel_rfl
set_option maxHeartbeats 8000000 in
set_option maxRecDepth 100000 in
theorem reals_of.calls (a0_0 : Int) (a0_1 : Int) (r1 : Bool) (r2 : Int) (r3 : Int) (r4 : Int) (r5 : Bool) (w : World) (h : reals_of.f a0_0 a0_1 = some (r1, r2, r3, r4, r5)) :
  Calls Tryz.prog 135 #[.agg #[.int .i64 a0_0, .int .i64 a0_1]] w fun e w' => e = .returned (.agg #[.bool r1, .int .u64 r2, .int .u64 r3, .int .i64 r4, .bool r5]) ∧ Below w.heap.size w w' := by
 have hu23 := Tryz.underlying23
 have hu150 := Tryz.underlying150
 have HB := Aside0.mk (Below.refl w.heap.size w)
 have H : ((reals_magnitude.f a0_0).bind fun bt204 => (some (decide (a0_0 < 0), bt204.1, bt204.2, a0_1, false))) = some (r1, r2, r3, r4, r5) := h
 clear h
 replace H := Option.bind_eq_some_iff.mp H
 obtain ⟨⟨t204, t205⟩, A20, H⟩ := H
 replace H : (some (decide (a0_0 < 0), t204, t205, a0_1, false)) = some (r1, r2, r3, r4, r5) := H
 have A2 := Aside0.mk A20
 clear A20
 simp only [Option.some.injEq, Prod.mk.injEq] at H
 obtain ⟨rfl, rfl, rfl, rfl, rfl⟩ := H
 go_enter Tryz.func135, Tryz.ntmps135
 try go_wp2_with (first | ((with_reducible refine gate_dst (N := 1) rfl ?_); refine box_event ?hg (N := 1) ?hd (cs := #[.int .i64 a0_0, .int .i64 a0_1]) (t := 23) ?hr ?_; (case hd => rfl); (case hg => rfl); (case hr => first | (go_simp; done) | (go_simp; rfl)); intro gb202 hg w3 hbox hb; have BK202 := Aside0.mk (hbox); have GW202 := Aside0.mk (bs HB hg : w.heap.size ≤ gb202); replace HB := Aside0.mk (below_step (bw HB) hb); clear hb hbox hg) | ((with_reducible refine gate_dst (N := 2) rfl ?_); refine box_event ?hg (N := 2) ?hd (cs := #[.bool false, .int .u64 0, .int .u64 0, .int .i64 0, .bool false]) (t := 150) ?hr ?_; (case hd => rfl); (case hg => rfl); (case hr => first | (go_simp; done) | (go_simp; rfl)); intro gb203 hg w4 hbox hb; have BK203 := Aside0.mk (hbox); have GW203 := Aside0.mk (bs HB hg : w.heap.size ≤ gb203); replace HB := Aside0.mk (below_step (bw HB) hb); have NB202_203 := Aside0.mk (nl BK202 hg); have NB203_202 := Aside0.mk (ng BK202 hg); replace BK202 := Aside0.mk (bb BK202 hb); clear hb hbox hg))
 replace BK202 := Aside0.mk (blk_drew BK202.out)
 replace BK203 := Aside0.mk (blk_drew BK203.out)
 replace HB := Aside0.mk (below_drew1 HB.out)
 refine start_ (n := 10) (S := fun w' => w'.cell? ⟨gb202, 0, none⟩ = some (.int .i64 a0_0) ∧ w'.cell? ⟨gb202, 1, none⟩ = some (.int .i64 a0_1)) (ds := []) #[false, false, false, false, false, false, false, false, false, false] (by kernel_rfl) rfl rfl ⟨(blk_cell BK202.out 0).trans rfl, (blk_cell BK202.out 1).trans rfl⟩ (fun hHeld => ?_); refine with_tabW reals_of.tab1 reals_of.bits1 (fun HT_ HW_ => ?_)
 generalize w4.drew = w5 at BK202 BK203 HB hHeld ⊢
 refine pu 0 3 (bl 10 1) HT_ ?_
 refine pu 3 6 (bl 10 9) HT_ ?_
 refine pu 6 9 (bl 10 73) HT_ ?_
 refine ta 1 4 (bl 10 75) HT_ HW_ hHeld ?_
 refine pu 2 5 (bl 10 79) HT_ ?_
 refine ta 4 7 (bl 10 95) HT_ HW_ hHeld ?_
 refine ta 7 10 (bl 10 223) HT_ HW_ hHeld ?_
 refine one_ (i := 5) (N := some 8) #[true, true, true, true, true, true, true, true, false, false] rfl rfl (one_of HT_.out (by kernel_rfl)) (by decide) (fun K hK => ?_)
 refine goes_ Tryz.func111 (by kernel_rfl) rfl #[.int .i64 a0_0] (by rfl) rfl rfl (by (try simp only [List.map_toArray, List.map_cons, List.map_nil]); first | done | rfl | (simp only [List.length_drop, List.length_take]; rfl)) ?_
 with_reducible refine (reals_magnitude.calls a0_0 t204 t205 _ A2.out).mono ?_
 rintro e w6 ⟨rfl, hb⟩
 refine ⟨_, rfl, ?_⟩
 replace BK202 := Aside0.mk (bb BK202 hb)
 replace BK203 := Aside0.mk (bb BK203 hb)
 replace HB := Aside0.mk (below_step (bw HB) hb)
 (try clear hb)
 (try clear hb2)
 (try clear hk)
 (try clear hi)
 refine hK.out _ _ ⟨(blk_cell BK202.out 0).trans rfl, (blk_cell BK202.out 1).trans rfl⟩ (fun hHeld => ?_)
 clear hK K
 refine norm_ (a' := ?_) ?_ ?_
 rotate_left
 ·show Act.put _ (some 8) _ = _
  simp only [sx, i64_w, i32_w]
  rfl
 refine pu 8 11 (bl 10 511) HT_ ?_
 refine one_ (i := 9) (N := none) #[true, true, true, true, true, true, true, true, true, true] rfl rfl (one_of HT_.out (by kernel_rfl)) (by decide) (fun K hK => ?_)
 have hs7 : w6.cell? ⟨gb203, 0, none⟩ = some (.bool false) := (blk_cell BK203.out 0).trans rfl
 have hfs7 := blk_frozen BK203.out 0
 have hns7_0 := NB202_203.out
 have hms7_0 := NB203_202.out
 have hs8 : w6.cell? ⟨gb203, 1, none⟩ = some (.int .u64 0) := (blk_cell BK203.out 1).trans rfl
 have hfs8 := blk_frozen BK203.out 1
 have hns8_0 := NB202_203.out
 have hms8_0 := NB203_202.out
 have hs9 : w6.cell? ⟨gb203, 2, none⟩ = some (.int .u64 0) := (blk_cell BK203.out 2).trans rfl
 have hfs9 := blk_frozen BK203.out 2
 have hns9_0 := NB202_203.out
 have hms9_0 := NB203_202.out
 have hs10 : w6.cell? ⟨gb203, 3, none⟩ = some (.int .i64 0) := (blk_cell BK203.out 3).trans rfl
 have hfs10 := blk_frozen BK203.out 3
 have hns10_0 := NB202_203.out
 have hms10_0 := NB203_202.out
 have hs11 : w6.cell? ⟨gb203, 4, none⟩ = some (.bool false) := (blk_cell BK203.out 4).trans rfl
 have hfs11 := blk_frozen BK203.out 4
 have hns11_0 := NB202_203.out
 have hms11_0 := NB203_202.out
 refine skip_ (w1 := ?_) (by rfl) rfl ?_ ?_
 rotate_left
 ·go_simp
  rfl
 refine hK.out _ _ ⟨((cell_far (p := ⟨gb203, _, none⟩) NB202_203.out _).trans (((cell_far (p := ⟨gb203, _, none⟩) NB202_203.out _).trans (((cell_far (p := ⟨gb203, _, none⟩) NB202_203.out _).trans (((cell_far (p := ⟨gb203, _, none⟩) NB202_203.out _).trans (((cell_far (p := ⟨gb203, _, none⟩) NB202_203.out _).trans (hHeld.1)))))))))), ((cell_far (p := ⟨gb203, _, none⟩) NB202_203.out _).trans (((cell_far (p := ⟨gb203, _, none⟩) NB202_203.out _).trans (((cell_far (p := ⟨gb203, _, none⟩) NB202_203.out _).trans (((cell_far (p := ⟨gb203, _, none⟩) NB202_203.out _).trans (((cell_far (p := ⟨gb203, _, none⟩) NB202_203.out _).trans (hHeld.2))))))))))⟩ (fun hHeld => ?_)
 clear hK K
 refine done_ (done_of HT_.out (by kernel_rfl)) ?_
 try go_wp2
 refine bodyPost_ret (results_cell_row rfl _ _ gb203 150 #[.bool (decide (a0_0 < 0)), .int .u64 t204, .int .u64 t205, .int .i64 a0_1, .bool false] (0, 0) _ rfl (by (with_reducible repeat (first | refine blk_drewN ?_ _ | refine blk_drew ?_ | refine blk_alloc ?_ _)); refine blk_put (cs := #[.bool (decide (a0_0 < 0)), .int .u64 t204, .int .u64 t205, .int .i64 a0_1, .bool false]) ?_ 4 _ rfl; (with_reducible repeat (first | refine blk_drewN ?_ _ | refine blk_drew ?_ | refine blk_alloc ?_ _)); refine blk_put (cs := #[.bool (decide (a0_0 < 0)), .int .u64 t204, .int .u64 t205, .int .i64 0, .bool false]) ?_ 3 _ rfl; (with_reducible repeat (first | refine blk_drewN ?_ _ | refine blk_drew ?_ | refine blk_alloc ?_ _)); refine blk_put (cs := #[.bool (decide (a0_0 < 0)), .int .u64 t204, .int .u64 0, .int .i64 0, .bool false]) ?_ 2 _ rfl; (with_reducible repeat (first | refine blk_drewN ?_ _ | refine blk_drew ?_ | refine blk_alloc ?_ _)); refine blk_put (cs := #[.bool (decide (a0_0 < 0)), .int .u64 0, .int .u64 0, .int .i64 0, .bool false]) ?_ 1 _ rfl; (with_reducible repeat (first | refine blk_drewN ?_ _ | refine blk_drew ?_ | refine blk_alloc ?_ _)); refine blk_put (cs := #[.bool false, .int .u64 0, .int .u64 0, .int .i64 0, .bool false]) ?_ 0 _ rfl; (with_reducible repeat (first | refine blk_drewN ?_ _ | refine blk_drew ?_ | refine blk_alloc ?_ _)); exact BK203.out) Tryz.underlying150 rfl (by kernel_rfl)) rfl ?_
 exact ⟨by first | rfl | (simp [errW_none, errW_some] <;> rfl) | (simp [*, errW_none, errW_some] <;> rfl), bw HB⟩

/-! ### bits_LeadingZeros64: function 166 -/
def bits_LeadingZeros64.f (a0 : Int) : Option (Int) := if U64 a0 then some (64 - (Lib.bitLen a0.toNat : Int)) else none
theorem bits_LeadingZeros64.calls (a0 : Int) (r : Int) (w : World) (h : bits_LeadingZeros64.f a0 = some r) :
  Calls Tryz.prog 166 #[.int .u64 a0] w fun e w' => e = .returned (.int .i64 r) ∧ Drawn0 w w' := by
 unfold bits_LeadingZeros64.f at h
 by_cases hc : U64 a0
 ·rw [if_pos hc] at h; cases h
  have := hc.out; unfold u64s at this
  refine (Go.Proofs.Tryz.bits_LeadingZeros64 a0 w (by omega) (by omega)).mono ?_
  rintro e w' ⟨he, hw⟩
  exact ⟨he, hw ▸ Drawn0.refl _⟩
 ·rw [if_neg hc] at h; cases h
end Go.Proofs.YtckbmniiecbalaaGreatDoor.PT
