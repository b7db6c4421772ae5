-- written by a program of this session out of the kit's print (its words and its form)
import Derived.Test.YtckbmniiecbalaaGreatDoorPTgA
import Derived.Test.YtckbmniiecbalaaGreatDoorPTgB
import Derived.Test.YtckbmniiecbalaaGreatDoorPTsq
import Derived.Test.YtckbmniiecbalaaGreatDoorPTx0
namespace Go.Proofs.YtckbmniiecbalaaGreatDoor.PT
open Go.RowKit Go.Proofs.YtckbmniiecbalaaGreatDoorW.PrintWords Go.Proofs.YtckbmniiecbalaaGreatDoorW.PrintLast Go.Proofs.YtckbmniiecbalaaGreatDoorW.PrintMore
attribute [local go_sem] max2_int min2_int max_two min_two max_three min_three max_four min_four   -- for this text's walks alone
set_option linter.unusedVariables false
set_option linter.unusedSimpArgs false

/-! one digit of Knuth's division -/
theorem kd_hi {u y y1 y0 n q : Nat} (hy : y = y1 * 4294967296 + y0) (hq : q = (u * 4294967296 + n) / y) (hy1 : 0 < y1) (hn : n < 4294967296) : q ≤ u / y1 := by
 have hy0 : 0 < y := by omega
 have h1 : q * y ≤ u * 4294967296 + n := by rw [hq]; exact Nat.div_mul_le_self _ _
 have h2 : q * y = q * y1 * 4294967296 + q * y0 := by rw [hy, Nat.mul_add, Nat.mul_assoc]
 have h3 : q * y1 ≤ u := by omega
 exact (Nat.le_div_iff_mul_le hy1).2 h3
theorem kd_stop {u y y1 y0 n q r : Nat} (hy : y = y1 * 4294967296 + y0) (hy0 : 0 < y) (hr : q * y1 + r = u) (hge : (u * 4294967296 + n) / y ≤ q) (hs : q * y0 ≤ 4294967296 * r + n) : q = (u * 4294967296 + n) / y := by
 apply Nat.le_antisymm _ hge
 apply (Nat.le_div_iff_mul_le hy0).2
 have h2 : q * y = q * y1 * 4294967296 + q * y0 := by rw [hy, Nat.mul_add, Nat.mul_assoc]
 omega
theorem kd_less {u y y1 y0 n q r : Nat} (hy : y = y1 * 4294967296 + y0) (hy0 : 0 < y) (hr : q * y1 + r = u) (hs : 4294967296 * r + n < q * y0) : (u * 4294967296 + n) / y < q := by
 apply (Nat.div_lt_iff_lt_mul hy0).2
 have h2 : q * y = q * y1 * 4294967296 + q * y0 := by rw [hy, Nat.mul_add, Nat.mul_assoc]
 omega
theorem kd_small {u y n : Nat} (h : u < y) (hn : n < 4294967296) : (u * 4294967296 + n) / y < 4294967296 := by
 apply (Nat.div_lt_iff_lt_mul (by omega)).2
 have := Nat.mul_le_mul_right 4294967296 (show u + 1 ≤ y from h)
 rw [Nat.add_mul] at this
 rw [Nat.mul_comm 4294967296 y]; omega
/-- what is known of a quotient's digit on its way: Q is the digit that is sought -/
structure Kd1 (u y1 y0 n q r Q : Nat) : Prop where
 sum : q * y1 + r = u
 ge : Q ≤ q
 le : q ≤ 8589934592
 rr : r < 4294967296
theorem mul_lt64 {q y0 : Nat} (h : q < 4294967296) (h' : y0 < 4294967296) : q * y0 < 18446744073709551616 := by
 have := Nat.mul_le_mul (show q ≤ 4294967295 by omega) (show y0 ≤ 4294967295 by omega); omega
theorem wu {x : Nat} (h : x < 18446744073709551616) : IntKind.u64.wrap (x : Int) = x := by rw [IntKind.wrap_u64]; omega
/-- one test and one step of the loop: it ends at Q, or goes on -/
theorem kd_test {u y y1 y0 n q r Q : Nat} (hy : y = y1 * 4294967296 + y0) (hy1 : 2147483648 ≤ y1) (hy1' : y1 < 4294967296) (hy0 : y0 < 4294967296) (hQ : Q = (u * 4294967296 + n) / y) (hn : n < 4294967296) (hu : u < y) (h : Kd1 u y1 y0 n q r Q) :
  (¬ (4294967296 ≤ q ∨ 4294967296 * r + n < q * y0) ∧ q = Q) ∨ ((4294967296 ≤ q ∨ 4294967296 * r + n < q * y0) ∧ 1 ≤ q ∧ Q ≤ q - 1 ∧ (q - 1) * y1 + (r + y1) = u ∧ (4294967296 ≤ r + y1 → q - 1 = Q)) := by
 have hyp : 0 < y := by omega
 have hQs : Q < 4294967296 := by rw [hQ]; exact kd_small hu hn
 have hs := h.sum; have hge := h.ge; have hle := h.le; have hr := h.rr
 by_cases ht : 4294967296 ≤ q ∨ 4294967296 * r + n < q * y0
 ·right
  have hlt : Q < q := by
   rcases ht with ht | ht
   ·omega
   ·rw [hQ]; exact kd_less hy hyp hs ht
  have e : (q - 1) * y1 + y1 = q * y1 := by
   rw [show q * y1 = (q - 1 + 1) * y1 by congr 1; omega, Nat.add_mul, Nat.one_mul]
  refine ⟨ht, by omega, by omega, by omega, fun hb => ?_⟩
  have hsum : (q - 1) * y1 + (r + y1) = u := by omega
  rw [hQ]
  refine kd_stop hy hyp hsum (by rw [← hQ]; omega) ?_
  have hq1 : q - 1 ≤ 4294967296 := by
   apply Nat.le_of_not_lt; intro hc
   have : 4294967297 * y1 ≤ (q - 1) * y1 := Nat.mul_le_mul_right _ (by omega)
   omega
  have := Nat.mul_le_mul hq1 (show y0 ≤ 4294967295 by omega)
  omega
 ·left
  refine ⟨ht, ?_⟩
  rw [hQ]; exact kd_stop hy hyp hs (by rw [← hQ]; omega) (by omega)

theorem wrap_back {a b c R : Nat} (h : R + c = a + b) (hR : R < 18446744073709551616) : IntKind.u64.wrap (IntKind.u64.wrap (IntKind.u64.wrap (a : Int) + (b : Int)) - IntKind.u64.wrap (c : Int)) = (R : Int) := by
 simp only [IntKind.wrap_u64]; omega
theorem shr_u {x s : Nat} (h : s ≤ 64) : shr .u64 (x : Int) (s : Int) = ((x / 2 ^ s : Nat) : Int) := by
 unfold shr
 have e : min (s : Int).toNat IntKind.u64.bits = s := by rw [Int.toNat_natCast]; simp [IntKind.bits]; omega
 rw [e, show ((2 : Int) ^ s) = ((2 ^ s : Nat) : Int) by rw [Int.natCast_pow]; rfl]; rfl
theorem shl_u {x s : Nat} (h : s ≤ 64) : shl .u64 (x : Int) (s : Int) = ((x * 2 ^ s % 18446744073709551616 : Nat) : Int) := by
 unfold shl
 have e : min (s : Int).toNat IntKind.u64.bits = s := by rw [Int.toNat_natCast]; simp [IntKind.bits]; omega
 rw [e, show ((2 : Int) ^ s) = ((2 ^ s : Nat) : Int) by rw [Int.natCast_pow]; rfl, IntKind.wrap_u64]; rfl
/-- the test of the loop, as the code makes it -/
theorem kd_dec {q y0 r n : Nat} (hq : ¬ 4294967296 ≤ q) (hy0 : y0 < 4294967296) (hr : r < 4294967296) (hn : n < 4294967296) :
  decide (IntKind.u64.wrap ((q : Int) * (y0 : Int)) > IntKind.u64.wrap (IntKind.u64.wrap (4294967296 * (r : Int)) + (n : Int))) = decide (4294967296 ≤ q ∨ 4294967296 * r + n < q * y0) := by
 have h := mul_lt64 (show q < 4294967296 by omega) hy0
 rw [decide_eq_decide, ← Int.natCast_mul, wu h]
 simp only [IntKind.wrap_u64]
 generalize q * y0 = p at *
 omega
theorem div_l1 {y y1 y0 u n q1 s Q : Nat} (hy : y = y1 * 4294967296 + y0) (hy1 : 2147483648 ≤ y1) (hy1' : y1 < 4294967296) (hy0 : y0 < 4294967296) (hn : n < 4294967296) (hu : u < y) (hQ : Q = (u * 4294967296 + n) / y) (hs : s ≤ 63) (hq1 : q1 < 4294967296) :
  ∀ (m k q r : Nat), 2 * m < k → 4294967296 ≤ r + m * 2147483648 → Kd1 u y1 y0 n q r Q →
   bits_Div64.l1 k y s y1 y0 n q1 r u q = some (((q1 * 4294967296 + Q : Nat) : Int), (((u * 4294967296 + n) % y / 2 ^ s : Nat) : Int)) := by
 have hQs : Q < 4294967296 := by rw [hQ]; exact kd_small hu hn
 have hdm := Nat.div_add_mod (u * 4294967296 + n) y
 rw [← hQ, Nat.mul_comm] at hdm
 have hmod := Nat.mod_lt (u * 4294967296 + n) (show 0 < y by omega)
 -- what the end answers
 have fin : ∀ z : Nat, z = Q → (if 0 ≤ (s : Int) then (some (IntKind.u64.wrap ((IntKind.u64.wrap ((q1 : Int) * 4294967296)) + (z : Int)), shr .u64 (IntKind.u64.wrap ((IntKind.u64.wrap ((IntKind.u64.wrap ((u : Int) * 4294967296)) + (n : Int))) - (IntKind.u64.wrap ((z : Int) * (y : Int))))) (s : Int))) else none) = some (((q1 * 4294967296 + Q : Nat) : Int), (((u * 4294967296 + n) % y / 2 ^ s : Nat) : Int)) := by
  intro z hz
  subst hz
  have e1 := wrap_back (a := u * 4294967296) (b := n) (c := z * y) (R := (u * 4294967296 + n) % y) (by omega) (by omega)
  rw [Int.natCast_mul, Int.natCast_mul] at e1
  have eU : IntKind.u64.wrap ((IntKind.u64.wrap ((IntKind.u64.wrap ((u : Int) * 4294967296)) + (n : Int))) - (IntKind.u64.wrap ((z : Int) * (y : Int)))) = (((u * 4294967296 + n) % y : Nat) : Int) := e1
  rw [if_pos (by omega), eU, shr_u (by omega)]
  congr 2
  simp only [IntKind.wrap_u64]; omega
 intro m
 induction m with
 | zero => intro k q r _ h hk; have := hk.rr; omega
 | succ m ih =>
  intro k q r hk hm hd
  obtain ⟨k, rfl⟩ : ∃ j, k = j + 2 := ⟨k - 2, by omega⟩
  have hrr := hd.rr
  have ht := kd_test hy hy1 hy1' hy0 hQ hn hu hd
  have hj : bits_Div64.l1 (k + 2) y s y1 y0 n q1 r u q = bits_Div64.j4 (k + 1) y s y1 y0 n q1 r u q (decide (4294967296 ≤ q ∨ 4294967296 * r + n < q * y0)) := by
   show (if (q : Int) ≥ 4294967296 then _ else _) = _
   by_cases hq : 4294967296 ≤ q
   ·rw [if_pos (by omega), decide_eq_true (Or.inl hq)]
   ·rw [if_neg (by omega), kd_dec hq hy0 hrr hn]
  rw [hj]
  simp only [bits_Div64.j4]
  rcases ht with ⟨h1, h2⟩ | ⟨h1, h2, h3, h4, h5⟩
  ·rw [decide_eq_false h1, if_neg (by decide)]
   exact fin q h2
  ·rw [decide_eq_true h1, if_pos rfl]
   have e2 : IntKind.u64.wrap ((q : Int) - 1) = ((q - 1 : Nat) : Int) := by rw [IntKind.wrap_u64]; have := hd.le; omega
   have e3 : IntKind.u64.wrap ((r : Int) + (y1 : Int)) = ((r + y1 : Nat) : Int) := by rw [IntKind.wrap_u64]; omega
   rw [e2, e3]
   by_cases hb : 4294967296 ≤ r + y1
   ·rw [if_pos (by omega)]; exact fin (q - 1) (h5 hb)
   ·rw [if_neg (by omega)]
    exact ih k (q - 1) (r + y1) (by omega) (by omega) ⟨h4, h3, by have := hd.le; omega, by omega⟩
/-- the first digit, and on to the second -/
theorem div_l0 {y y1 y0 u n1 n0 s Q1 : Nat} (hy : y = y1 * 4294967296 + y0) (hy1 : 2147483648 ≤ y1) (hy1' : y1 < 4294967296) (hy0 : y0 < 4294967296) (hn1 : n1 < 4294967296) (hn0 : n0 < 4294967296) (hu : u < y) (hQ1 : Q1 = (u * 4294967296 + n1) / y) (hs : s ≤ 63) :
  ∀ (m k q r : Nat), 2 * m + 9 < k → 4294967296 ≤ r + m * 2147483648 → Kd1 u y1 y0 n1 q r Q1 →
   bits_Div64.l0 k y s y1 y0 u n1 n0 q r = some (((Q1 * 4294967296 + ((u * 4294967296 + n1) % y * 4294967296 + n0) / y : Nat) : Int), ((((u * 4294967296 + n1) % y * 4294967296 + n0) % y / 2 ^ s : Nat) : Int)) := by
 have hQs : Q1 < 4294967296 := by rw [hQ1]; exact kd_small hu hn1
 have hdm := Nat.div_add_mod (u * 4294967296 + n1) y
 rw [← hQ1, Nat.mul_comm] at hdm
 have hmod := Nat.mod_lt (u * 4294967296 + n1) (show 0 < y by omega)
 obtain ⟨U, hU⟩ : ∃ U, U = (u * 4294967296 + n1) % y := ⟨_, rfl⟩
 rw [← hU] at hdm hmod ⊢
 have fin : ∀ (z k : Nat), z = Q1 → 8 < k → bits_Div64.j2 k y s y1 y0 u n1 n0 z = some (((Q1 * 4294967296 + (U * 4294967296 + n0) / y : Nat) : Int), (((U * 4294967296 + n0) % y / 2 ^ s : Nat) : Int)) := by
  intro z k hz hk
  subst hz
  obtain ⟨k, rfl⟩ : ∃ j, k = j + 1 := ⟨k - 1, by omega⟩
  simp only [bits_Div64.j2]
  have e1 := wrap_back (a := u * 4294967296) (b := n1) (c := z * y) (R := U) (by omega) (by omega)
  rw [Int.natCast_mul, Int.natCast_mul] at e1
  have eU : IntKind.u64.wrap ((IntKind.u64.wrap ((IntKind.u64.wrap ((u : Int) * 4294967296)) + (n1 : Int))) - (IntKind.u64.wrap ((z : Int) * (y : Int)))) = (U : Int) := e1
  have eq0 : IntKind.u64.wrap (Int.tdiv (U : Int) (y1 : Int)) = ((U / y1 : Nat) : Int) := by
   have e : Int.tdiv (U : Int) (y1 : Int) = ((U / y1 : Nat) : Int) := by rw [Int.tdiv_eq_ediv_of_nonneg (by omega)]; rfl
   rw [e]; exact wu (Nat.lt_of_le_of_lt (Nat.div_le_self _ _) (by omega))
  have hdv := Nat.div_add_mod U y1
  have hmv := Nat.mod_lt U (show 0 < y1 by omega)
  have er0 : IntKind.u64.wrap ((U : Int) - IntKind.u64.wrap (((U / y1 : Nat) : Int) * (y1 : Int))) = ((U % y1 : Nat) : Int) := by
   rw [← Int.natCast_mul]; rw [Nat.mul_comm] at hdv
   generalize U / y1 * y1 = p at *
   simp only [IntKind.wrap_u64]; omega
  rw [if_neg (by omega), eU, eq0, er0]
  have hd : Kd1 U y1 y0 n0 (U / y1) (U % y1) ((U * 4294967296 + n0) / y) := by
   refine ⟨by rw [Nat.mul_comm]; exact hdv, kd_hi hy rfl (by omega) hn0, ?_, by omega⟩
   apply Nat.le_of_lt_succ
   apply (Nat.div_lt_iff_lt_mul (by omega)).2
   omega
  exact div_l1 hy hy1 hy1' hy0 hn0 (by omega) rfl hs hQs 2 k _ _ (by omega) (by omega) hd
 intro m
 induction m with
 | zero => intro k q r _ h hk; have := hk.rr; omega
 | succ m ih =>
  intro k q r hk hm hd
  obtain ⟨k, rfl⟩ : ∃ j, k = j + 2 := ⟨k - 2, by omega⟩
  have hrr := hd.rr
  have ht := kd_test hy hy1 hy1' hy0 hQ1 hn1 hu hd
  have hj : bits_Div64.l0 (k + 2) y s y1 y0 u n1 n0 q r = bits_Div64.j1 (k + 1) y s y1 y0 u n1 n0 q r (decide (4294967296 ≤ q ∨ 4294967296 * r + n1 < q * y0)) := by
   show (if (q : Int) ≥ 4294967296 then _ else _) = _
   by_cases hq : 4294967296 ≤ q
   ·rw [if_pos (by omega), decide_eq_true (Or.inl hq)]
   ·rw [if_neg (by omega), kd_dec hq hy0 hrr hn1]
  rw [hj]
  simp only [bits_Div64.j1]
  rcases ht with ⟨h1, h2⟩ | ⟨h1, h2, h3, h4, h5⟩
  ·rw [decide_eq_false h1, if_neg (by decide)]
   exact fin q k h2 (by omega)
  ·rw [decide_eq_true h1, if_pos rfl]
   have e2 : IntKind.u64.wrap ((q : Int) - 1) = ((q - 1 : Nat) : Int) := by rw [IntKind.wrap_u64]; have := hd.le; omega
   have e3 : IntKind.u64.wrap ((r : Int) + (y1 : Int)) = ((r + y1 : Nat) : Int) := by rw [IntKind.wrap_u64]; omega
   rw [e2, e3]
   by_cases hb : 4294967296 ≤ r + y1
   ·rw [if_pos (by omega)]; exact fin (q - 1) k (h5 hb) (by omega)
   ·rw [if_neg (by omega)]
    exact ih k (q - 1) (r + y1) (by omega) (by omega) ⟨h4, h3, by have := hd.le; omega, by omega⟩

theorem blAux : ∀ (f x : Nat), x < 2 ^ f → x < 2 ^ Lib.bitLenAux f x ∧ (x ≠ 0 → 2 ^ (Lib.bitLenAux f x - 1) ≤ x) ∧ Lib.bitLenAux f x ≤ f ∧ (x ≠ 0 → 1 ≤ Lib.bitLenAux f x) := by
 intro f
 induction f with
 | zero => intro x h; simp [Lib.bitLenAux] at h ⊢; omega
 | succ f ih =>
  intro x h
  by_cases h0 : x = 0
  ·subst h0; simp [Lib.bitLenAux]
  ·have hh := ih (x / 2) (by rw [Nat.pow_succ] at h; omega)
   simp only [Lib.bitLenAux, if_neg h0]
   refine ⟨by rw [Nat.add_comm, Nat.pow_succ]; omega, fun _ => ?_, by omega, fun _ => by omega⟩
   rw [Nat.add_sub_cancel_left]
   by_cases h2 : x / 2 = 0
   ·rw [h2] at hh ⊢
    have e : Lib.bitLenAux f 0 = 0 := by cases f <;> simp [Lib.bitLenAux]
    rw [e]; simp; omega
   ·have h3 := hh.2.1 h2
    have h4 := hh.2.2.2 h2
    have e : Lib.bitLenAux f (x / 2) = (Lib.bitLenAux f (x / 2) - 1) + 1 := by omega
    rw [e, Nat.pow_succ]; omega
theorem bl_is {y : Nat} (h0 : 0 < y) (h : y < 18446744073709551616) : ∃ b, Lib.bitLen y = b + 1 ∧ b ≤ 63 ∧ 2 ^ b ≤ y ∧ y < 2 ^ (b + 1) := by
 have hh := blAux 64 y h
 have h4 := hh.2.2.2 (by omega)
 refine ⟨Lib.bitLen y - 1, ?_, ?_, ?_, ?_⟩
 ·unfold Lib.bitLen; omega
 ·unfold Lib.bitLen; have := hh.2.2.1; omega
 ·unfold Lib.bitLen; exact hh.2.1 (by omega)
 ·unfold Lib.bitLen; rw [show Lib.bitLenAux 64 y - 1 + 1 = Lib.bitLenAux 64 y by omega]; exact hh.1
theorem div_shift {a y s : Nat} : (a * 2 ^ s) / (y * 2 ^ s) = a / y ∧ (a * 2 ^ s) % (y * 2 ^ s) / 2 ^ s = a % y :=
 ⟨Nat.mul_div_mul_right _ _ (Nat.two_pow_pos s), by rw [Nat.mul_mod_mul_right]; exact Nat.mul_div_cancel _ (Nat.two_pow_pos s)⟩
/-- two words' division in two digits -/
theorem two_digits (u n1 n0 y : Nat) (hy : 0 < y) : ((u * 4294967296 + n1) / y) * 4294967296 + ((u * 4294967296 + n1) % y * 4294967296 + n0) / y = (u * 18446744073709551616 + n1 * 4294967296 + n0) / y ∧ ((u * 4294967296 + n1) % y * 4294967296 + n0) % y = (u * 18446744073709551616 + n1 * 4294967296 + n0) % y := by
 have h1 := Nat.div_add_mod (u * 4294967296 + n1) y
 obtain ⟨q, eq⟩ : ∃ q, q = (u * 4294967296 + n1) / y := ⟨_, rfl⟩
 obtain ⟨r, er⟩ : ∃ r, r = (u * 4294967296 + n1) % y := ⟨_, rfl⟩
 rw [← eq, ← er] at h1 ⊢
 have e : u * 18446744073709551616 + n1 * 4294967296 + n0 = y * (q * 4294967296) + (r * 4294967296 + n0) := by
  rw [← Nat.mul_assoc]; omega
 rw [e, Nat.mul_add_mod, Nat.mul_add_div hy]
 exact ⟨rfl, rfl⟩
theorem div64_is {hi lo y : Nat} (h : hi < y) (hy : y < 18446744073709551616) (hl : lo < 18446744073709551616) (k : Nat) : bits_Div64.f (k + 14) hi lo y = some ((((hi * 18446744073709551616 + lo) / y : Nat) : Int), (((hi * 18446744073709551616 + lo) % y : Nat) : Int)) := by
 unfold bits_Div64.f
 rw [if_neg (by omega), if_neg (by omega)]
 by_cases h0 : hi = 0
 ·subst h0
  rw [if_pos (show ((0 : Nat) : Int) = 0 from rfl)]
  have e1 : Int.tdiv (lo : Int) (y : Int) = ((lo / y : Nat) : Int) := by rw [Int.tdiv_eq_ediv_of_nonneg (by omega)]; rfl
  have e2 : Int.tmod (lo : Int) (y : Int) = ((lo % y : Nat) : Int) := by rw [Int.tmod_eq_emod_of_nonneg (by omega)]; rfl
  rw [e1, e2, wu (Nat.lt_of_le_of_lt (Nat.div_le_self _ _) hl), Nat.zero_mul, Nat.zero_add]
 ·rw [if_neg (by omega)]
  obtain ⟨b, hb, hb63, hb1, hb2⟩ := bl_is (y := y) (by omega) hy
  unfold bits_LeadingZeros64.f
  rw [if_pos (show U64 (y : Int) from ⟨by unfold u64s; omega⟩)]
  simp only [Option.bind_some]
  rw [Int.toNat_natCast, hb]
  obtain ⟨s, hs, hsb⟩ : ∃ s : Nat, (64 : Int) - ((b + 1 : Nat) : Int) = (s : Int) ∧ s + b = 63 := ⟨63 - b, by omega, by omega⟩
  rw [hs, wu (by omega : s < 18446744073709551616)]
  have e64 : IntKind.u64.wrap (64 - (s : Int)) = ((64 - s : Nat) : Int) := by rw [IntKind.wrap_u64]; omega
  rw [e64, if_pos (by omega), if_pos (by omega)]
  -- the divisor, shifted
  have hp : 2 ^ s * 2 ^ b = 9223372036854775808 := by rw [← Nat.pow_add, hsb]
  have hps := Nat.two_pow_pos s
  have hY1 : 9223372036854775808 ≤ y * 2 ^ s := by
   have := Nat.mul_le_mul_right (2 ^ s) hb1
   rw [Nat.mul_comm (2 ^ b)] at this; omega
  have hY2 : y * 2 ^ s < 18446744073709551616 := by
   have := Nat.mul_lt_mul_of_pos_right hb2 hps
   rw [Nat.pow_succ, Nat.mul_right_comm, Nat.mul_comm (2 ^ b), hp] at this; exact this
  have hp2 : 2 ^ s * 2 ^ (64 - s) = 18446744073709551616 := by rw [← Nat.pow_add, show s + (64 - s) = 64 by omega]
  have hU : hi * 2 ^ s < y * 2 ^ s := Nat.mul_lt_mul_of_pos_right h hps
  rw [shl_u (by omega), shl_u (by omega), shl_u (by omega), shr_u (by omega), Nat.mod_eq_of_lt hY2, Nat.mod_eq_of_lt (by omega : hi * 2 ^ s < 18446744073709551616)]
  -- the dividend, shifted: its first word, and the two digits behind it
  have hlo : lo / 2 ^ (64 - s) < 2 ^ s := by
   apply (Nat.div_lt_iff_lt_mul (Nat.two_pow_pos _)).2; rw [hp2]; exact hl
  have hor : Go.bits .or .u64 ((hi * 2 ^ s : Nat) : Int) ((lo / 2 ^ (64 - s) : Nat) : Int) = ((hi * 2 ^ s + lo / 2 ^ (64 - s) : Nat) : Int) := by
   rw [u64_or_nat _ _ (by omega) (Nat.lt_of_le_of_lt (Nat.div_le_self _ _) hl), nat_join s _ _ (Nat.mul_mod_left _ _) hlo]
  have hu : hi * 2 ^ s + lo / 2 ^ (64 - s) < y * 2 ^ s := by
   have : (hi + 1) * 2 ^ s ≤ y * 2 ^ s := Nat.mul_le_mul_right _ h
   rw [Nat.add_mul, Nat.one_mul] at this; omega
  have hsplit : lo * 2 ^ s = lo / 2 ^ (64 - s) * 18446744073709551616 + lo * 2 ^ s % 18446744073709551616 := by
   have h1 := Nat.div_add_mod (lo * 2 ^ s) 18446744073709551616
   have h2 : lo * 2 ^ s / 18446744073709551616 = lo / 2 ^ (64 - s) := by
    rw [← hp2, Nat.mul_comm (2 ^ s) (2 ^ (64 - s)), Nat.mul_div_mul_right _ _ hps]
   rw [h2] at h1; omega
  have hm := Nat.mod_lt (lo * 2 ^ s) (show 0 < 18446744073709551616 by omega)
  rw [hor]
  have hds := div_shift (a := hi * 18446744073709551616 + lo) (y := y) (s := s)
  rw [← hds.1, ← hds.2]
  have hnum : (hi * 18446744073709551616 + lo) * 2 ^ s = (hi * 2 ^ s + lo / 2 ^ (64 - s)) * 18446744073709551616 + lo * 2 ^ s % 18446744073709551616 := by
   rw [Nat.add_mul, Nat.mul_right_comm]; omega
  rw [hnum]
  obtain ⟨Y, eY⟩ : ∃ Y, Y = y * 2 ^ s := ⟨_, rfl⟩
  obtain ⟨U, eU⟩ : ∃ U, U = hi * 2 ^ s + lo / 2 ^ (64 - s) := ⟨_, rfl⟩
  obtain ⟨L, eL⟩ : ∃ L, L = lo * 2 ^ s % 18446744073709551616 := ⟨_, rfl⟩
  rw [← eY] at hY1 hY2 hu ⊢
  rw [← eU] at hu ⊢
  rw [← eL] at hm ⊢
  clear hnum hds hsplit hor hlo hU
  have g1 : (Y : Int) / 4294967296 = ((Y / 4294967296 : Nat) : Int) := rfl
  have g2 : Go.bits .and .u64 (Y : Int) 4294967295 = ((Y % 4294967296 : Nat) : Int) := and_low32 _ (by omega) (by omega)
  have g3 : (L : Int) / 4294967296 = ((L / 4294967296 : Nat) : Int) := rfl
  have g4 : Go.bits .and .u64 (L : Int) 4294967295 = ((L % 4294967296 : Nat) : Int) := and_low32 _ (by omega) (by omega)
  have g5 : IntKind.u64.wrap (Int.tdiv (U : Int) ((Y / 4294967296 : Nat) : Int)) = ((U / (Y / 4294967296) : Nat) : Int) := by
   have e : Int.tdiv (U : Int) ((Y / 4294967296 : Nat) : Int) = ((U / (Y / 4294967296) : Nat) : Int) := by rw [Int.tdiv_eq_ediv_of_nonneg (by omega)]; rfl
   rw [e]; exact wu (Nat.lt_of_le_of_lt (Nat.div_le_self _ _) (by omega))
  have hdv := Nat.div_add_mod U (Y / 4294967296)
  have hmv := Nat.mod_lt U (show 0 < Y / 4294967296 by omega)
  have g6 : IntKind.u64.wrap ((U : Int) - IntKind.u64.wrap (((U / (Y / 4294967296) : Nat) : Int) * ((Y / 4294967296 : Nat) : Int))) = ((U % (Y / 4294967296) : Nat) : Int) := by
   rw [← Int.natCast_mul]
   rw [Nat.mul_comm] at hdv
   generalize U / (Y / 4294967296) * (Y / 4294967296) = p at *
   simp only [IntKind.wrap_u64]; omega
  rw [g1, g2, g3, g4, g5, g6, if_neg (by omega)]
  have hyy : Y = Y / 4294967296 * 4294967296 + Y % 4294967296 := by omega
  have hd : Kd1 U (Y / 4294967296) (Y % 4294967296) (L / 4294967296) (U / (Y / 4294967296)) (U % (Y / 4294967296)) ((U * 4294967296 + L / 4294967296) / Y) := by
   refine ⟨by rw [Nat.mul_comm]; exact hdv, kd_hi hyy rfl (by omega) (by omega), ?_, by omega⟩
   apply Nat.le_of_lt_succ
   apply (Nat.div_lt_iff_lt_mul (by omega)).2
   omega
  rw [div_l0 hyy (by omega) (by omega) (by omega) (by omega) (by omega) hu rfl (by omega) 2 (k + 14) _ _ (by omega) (by omega) hd]
  have ht := two_digits U (L / 4294967296) (L % 4294967296) Y (by omega)
  rw [ht.1, ht.2]
  have eL2 : U * 18446744073709551616 + L / 4294967296 * 4294967296 + L % 4294967296 = U * 18446744073709551616 + L := by omega
  rw [eL2]
theorem over_is {n c : Nat} (hn : n < 340282366920938463463374607431768211456) (hc0 : 0 < c) (hc : c < 18446744073709551616) (k : Nat) : reals_wide_over.f (k + 14) (hiw n) (low n) c = some (hiw (n / c), low (n / c), ((n % c : Nat) : Int)) := by
 unfold reals_wide_over.f
 rw [if_neg (by omega)]
 have e1 : Int.tmod (hiw n) (c : Int) = ((n / 18446744073709551616 % c : Nat) : Int) := by unfold hiw; rw [Int.tmod_eq_emod_of_nonneg (by omega)]; rfl
 have e2 : Int.tdiv (hiw n) (c : Int) = ((n / 18446744073709551616 / c : Nat) : Int) := by unfold hiw; rw [Int.tdiv_eq_ediv_of_nonneg (by omega)]; rfl
 have hm := Nat.mod_lt (n / 18446744073709551616) hc0
 have e3 : low n = ((n % 18446744073709551616 : Nat) : Int) := rfl
 rw [e1, e2, e3, div64_is hm hc (by omega)]
 simp only [Option.bind_some]
 rw [wu (Nat.lt_of_le_of_lt (Nat.div_le_self _ _) (by omega))]
 have hdm := Nat.div_add_mod n 18446744073709551616
 have hd2 := Nat.div_add_mod (n / 18446744073709551616) c
 have key : n = c * (n / 18446744073709551616 / c * 18446744073709551616) + (n / 18446744073709551616 % c * 18446744073709551616 + n % 18446744073709551616) := by
  rw [← Nat.mul_assoc]; omega
 have hq : n / c = n / 18446744073709551616 / c * 18446744073709551616 + (n / 18446744073709551616 % c * 18446744073709551616 + n % 18446744073709551616) / c := by
  conv => lhs; rw [key]
  rw [Nat.mul_add_div hc0]
 have hr : n % c = (n / 18446744073709551616 % c * 18446744073709551616 + n % 18446744073709551616) % c := by
  conv => lhs; rw [key]
  rw [Nat.mul_add_mod]
 have hlt : (n / 18446744073709551616 % c * 18446744073709551616 + n % 18446744073709551616) / c < 18446744073709551616 := by
  apply (Nat.div_lt_iff_lt_mul hc0).2
  have := Nat.mul_le_mul_right 18446744073709551616 (show n / 18446744073709551616 % c + 1 ≤ c from hm)
  rw [Nat.add_mul, Nat.mul_comm c] at this; omega
 rw [hq, hr]
 obtain ⟨Q, hQ⟩ : ∃ Q, Q = n / 18446744073709551616 / c := ⟨_, rfl⟩
 obtain ⟨R, hR⟩ : ∃ R, R = (n / 18446744073709551616 % c * 18446744073709551616 + n % 18446744073709551616) / c := ⟨_, rfl⟩
 rw [← hR] at hlt
 rw [← hQ, ← hR]
 clear hQ hR hq hr key hd2 hdm
 have f1 : hiw (Q * 18446744073709551616 + R) = (Q : Int) := by unfold hiw; omega
 have f2 : low (Q * 18446744073709551616 + R) = (R : Int) := by unfold low; omega
 rw [f1, f2]

theorem w64 {n : Int} (h : -9223372036854775808 ≤ n) (h' : n ≤ 9223372036854775807) : wrap64 n = n := by
 unfold wrap64; omega
theorem times10 {n : Nat} (h : n * 10 < 340282366920938463463374607431768211456) : reals_wide_times.f (hiw n) (low n) 10 = some (hiw (n * 10), low (n * 10)) := times_is (c := 10) h (by omega) (by decide)
theorem scaled_loop (N : Nat) (hN : N ≤ 1000) : ∀ (d k i n : Nat), i + d = N → d < k → n * 10 ^ d < 340282366920938463463374607431768211456 → reals_wide_scaled.l0 k N i (hiw n) (low n) = some (hiw (n * 10 ^ d), low (n * 10 ^ d)) := by
 intro d
 induction d with
 | zero =>
  intro k i n hi hk hn
  obtain ⟨k, rfl⟩ : ∃ j, k = j + 1 := ⟨k - 1, by omega⟩
  simp only [reals_wide_scaled.l0]; rw [if_neg (by omega), Nat.pow_zero, Nat.mul_one]
 | succ d ih =>
  intro k i n hi hk hn
  obtain ⟨k, rfl⟩ : ∃ j, k = j + 1 := ⟨k - 1, by omega⟩
  simp only [reals_wide_scaled.l0]
  have e : n * 10 ^ (d + 1) = n * 10 * 10 ^ d := by rw [Nat.pow_succ, Nat.mul_comm (10 ^ d), Nat.mul_assoc]
  have hp := Nat.pow_pos (n := d) (show 0 < 10 by decide)
  rw [e] at hn ⊢
  have h1 : n * 10 ≤ n * 10 * 10 ^ d := Nat.le_mul_of_pos_right _ hp
  rw [if_pos (by omega), times10 (by omega)]; simp only [Option.bind_some]
  rw [w64 (by omega) (by omega)]
  exact ih k (i + 1) (n * 10) (by omega) (by omega) hn
theorem scaled_is {n d : Nat} (hd : d ≤ 1000) (h : n * 10 ^ d < 340282366920938463463374607431768211456) (k : Nat) (hk : d < k) : reals_wide_scaled.f k (hiw n) (low n) d = some (hiw (n * 10 ^ d), low (n * 10 ^ d)) := by
 unfold reals_wide_scaled.f
 exact scaled_loop d hd d k 0 n (by omega) hk h
theorem power_loop (N : Nat) (hN : N ≤ 1000) : ∀ (d k i n : Nat), i + d = N → d < k → n * 10 ^ d < 340282366920938463463374607431768211456 → reals_power.l0 k N i (hiw n) (low n) = some (hiw (n * 10 ^ d), low (n * 10 ^ d)) := by
 intro d
 induction d with
 | zero =>
  intro k i n hi hk hn
  obtain ⟨k, rfl⟩ : ∃ j, k = j + 1 := ⟨k - 1, by omega⟩
  simp only [reals_power.l0]; rw [if_neg (by omega), Nat.pow_zero, Nat.mul_one]
 | succ d ih =>
  intro k i n hi hk hn
  obtain ⟨k, rfl⟩ : ∃ j, k = j + 1 := ⟨k - 1, by omega⟩
  simp only [reals_power.l0]
  have e : n * 10 ^ (d + 1) = n * 10 * 10 ^ d := by rw [Nat.pow_succ, Nat.mul_comm (10 ^ d), Nat.mul_assoc]
  have hp := Nat.pow_pos (n := d) (show 0 < 10 by decide)
  rw [e] at hn ⊢
  have h1 : n * 10 ≤ n * 10 * 10 ^ d := Nat.le_mul_of_pos_right _ hp
  rw [if_pos (by omega), times10 (by omega)]; simp only [Option.bind_some]
  rw [w64 (by omega) (by omega)]
  exact ih k (i + 1) (n * 10) (by omega) (by omega) hn
theorem power_is {d : Nat} (hd : d ≤ 38) (k : Nat) (hk : d < k) : reals_power.f k d = some (hiw (10 ^ d), low (10 ^ d)) := by
 unfold reals_power.f
 have h := power_loop d (by omega) d k 0 1 (by omega) hk (by have := p38 hd; omega)
 rw [Nat.one_mul] at h
 exact h
theorem minus_is {n m : Nat} (hn : n < 340282366920938463463374607431768211456) (h : m ≤ n) : reals_wide_minus.f (hiw n) (low n) (hiw m) (low m) = some (hiw (n - m), low (n - m)) := by
 unfold reals_wide_minus.f
 have h1 := hl_u hn
 have h2 := hl_u (n := m) (by omega)
 rw [if_pos ⟨h1.1, h1.2, h2.1, h2.2⟩]
 unfold hiw low u64s
 congr 2
 ·split <;> omega
 ·omega

/-! ### reals_wide_cut: function 154 -/
/-- d digits dropped: what is left, how what was dropped compares to a half, and whether it is anything -/
def cutS (n d : Nat) (more : Bool) : Nat × Int × Bool :=
 if d = 0 then (n, -1, more) else if 38 < d then (0, -1, more || decide (n ≠ 0)) else
  (n / 10 ^ d, (if n % 10 ^ d = 10 ^ d - n % 10 ^ d then (if more = true then 1 else 0) else if n % 10 ^ d < 10 ^ d - n % 10 ^ d then -1 else 1), more || decide (n % 10 ^ d ≠ 0))
def reals_wide_cut.f (a0_0 : Int) (a0_1 : Int) (a1 : Int) (a2 : Bool) : Option (Int × Int × Int × Bool) := if (U64 a0_0 ∧ U64 a0_1) ∧ (0 ≤ a1 ∧ a1 ≤ 1000000) then some (hiw (cutS (wv a0_0 a0_1).toNat a1.toNat a2).1, low (cutS (wv a0_0 a0_1).toNat a1.toNat a2).1, (cutS (wv a0_0 a0_1).toNat a1.toNat a2).2) else none
def CutP (h l c : Int) (b : Bool) (w : World) (e : Ending) (w' : World) : Prop := e = .returned (.tuple #[.agg #[.int .u64 h, .int .u64 l], .int .i64 c, .bool b]) ∧ Below w.heap.size w w'
set_option maxHeartbeats 1000000 in
theorem cut_zero (a0_0 a0_1 : Int) (a2 : Bool) (w : World) : Calls Tryz.prog 154 #[.agg #[.int .u64 a0_0, .int .u64 a0_1], .int .i64 0, .bool a2] w (CutP a0_0 a0_1 (-1) a2 w) := by
 have hu := Tryz.underlying127
 go_enter Tryz.func154, Tryz.ntmps154
 go_wp2
 exact bodyPost_ret (v := .tuple #[.agg #[.int .u64 a0_0, .int .u64 a0_1], .int .i64 (-1), .bool a2]) (by simp [results, Tryz.results154, go_sem]) rfl ⟨rfl, ((Below.refl _ _).alloc (Nat.le_refl _) _).alloc (by simp) _⟩
set_option maxHeartbeats 4000000 in
theorem cut_far (a0_0 a0_1 a1 : Int) (a2 b : Bool) (w : World) (h1 : 38 < a1) (hb : b = (a2 || decide (¬ (a0_0 = 0 ∧ a0_1 = 0)))) : Calls Tryz.prog 154 #[.agg #[.int .u64 a0_0, .int .u64 a0_1], .int .i64 a1, .bool a2] w (CutP 0 0 (-1) b w) := by
 have hu := Tryz.underlying127
 have h0 : (a1 == 0) = false := by rw [beq_eq_false_iff_ne]; omega
 cases a2 with
 | true =>
  simp at hb; subst hb
  go_enter Tryz.func154, Tryz.ntmps154
  go_wp2
  go_region
  all_goals go_wp2
  all_goals exact bodyPost_ret (v := .tuple #[.agg #[.int .u64 0, .int .u64 0], .int .i64 (-1), .bool true]) (by simp [results, Tryz.results154, go_sem]) rfl ⟨rfl, by repeat (first | exact Below.refl _ _ | apply below_alloc | apply below_drew1 | apply pw_below_drewN | refine below_set ?_ (by simp))⟩
 | false =>
  by_cases hz : a0_0 = 0 ∧ a0_1 = 0
  ·obtain ⟨rfl, rfl⟩ := hz
   simp at hb; subst hb
   go_enter Tryz.func154, Tryz.ntmps154
   go_wp2
   go_region
   all_goals go_wp2
   all_goals exact bodyPost_ret (v := .tuple #[.agg #[.int .u64 0, .int .u64 0], .int .i64 (-1), .bool false]) (by simp [results, Tryz.results154, go_sem]) rfl ⟨rfl, by repeat (first | exact Below.refl _ _ | apply below_alloc | apply below_drew1 | apply pw_below_drewN | refine below_set ?_ (by simp))⟩
  ·have hbt : b = true := by rw [hb]; simp only [Bool.false_or, decide_eq_true_eq]; exact hz
   subst hbt
   by_cases hx : a0_0 = 0
   ·subst hx
    have e2 : ¬ a0_1 = 0 := fun h => hz ⟨rfl, h⟩
    clear hb hz
    go_enter Tryz.func154, Tryz.ntmps154
    go_wp2
    go_region
    all_goals go_wp2
    all_goals exact bodyPost_ret (v := .tuple #[.agg #[.int .u64 0, .int .u64 0], .int .i64 (-1), .bool true]) (by simp [results, Tryz.results154, go_sem]) rfl ⟨rfl, by repeat (first | exact Below.refl _ _ | apply below_alloc | apply below_drew1 | apply pw_below_drewN | refine below_set ?_ (by simp))⟩
   ·clear hb hz
    go_enter Tryz.func154, Tryz.ntmps154
    go_wp2
    go_region
    all_goals go_wp2
    all_goals exact bodyPost_ret (v := .tuple #[.agg #[.int .u64 0, .int .u64 0], .int .i64 (-1), .bool true]) (by simp [results, Tryz.results154, go_sem]) rfl ⟨rfl, by repeat (first | exact Below.refl _ _ | apply below_alloc | apply below_drew1 | apply pw_below_drewN | refine below_set ?_ (by simp))⟩

/-- the two boxes of cut, and what was there before -/
structure CutW (w w' : World) (H L Q0 Q1 : Int) : Prop where
 x : w'.heap[w.heap.size]? = some (.cells #[.int .u64 H, .int .u64 L] 127 (0, 0))
 q : w'.heap[w.heap.size + 1]? = some (.cells #[.int .u64 Q0, .int .u64 Q1] 127 (0, 0))
 b : Below w.heap.size w w'
theorem CutW.next {w w' w2 : World} {H L Q0 Q1 : Int} (h : CutW w w' H L Q0 Q1) (hb : Below w'.heap.size w' w2) : CutW w w2 H L Q0 Q1 := ⟨blk_below h.x hb, blk_below h.q hb, below_step h.b hb⟩
theorem CutW.drewN {w w' : World} {H L Q0 Q1 : Int} (h : CutW w w' H L Q0 Q1) (n : Nat) : CutW w (w'.drewN n) H L Q0 Q1 := ⟨h.x, h.q, pw_below_drewN h.b n⟩
theorem CutW.drew {w w' : World} {H L Q0 Q1 : Int} (h : CutW w w' H L Q0 Q1) : CutW w w'.drew H L Q0 Q1 := ⟨h.x, h.q, below_drew1 h.b⟩
theorem CutW.put {w w' : World} {H L Q0 Q1 : Int} (h : CutW w w' H L Q0 Q1) (a b : Int) : CutW w ((w'.setCell ⟨w.heap.size + 1, 0, none⟩ (.int .u64 a)).setCell ⟨w.heap.size + 1, 1, none⟩ (.int .u64 b)) H L a b :=
 ⟨blk_far (blk_far h.x (by simp) _) (by simp) _, blk_put (blk_put h.q 0 _ rfl) 1 _ rfl, below_set (below_set h.b (by simp)) (by simp)⟩
theorem CutW.cells {w w' : World} {H L Q0 Q1 : Int} (h : CutW w w' H L Q0 Q1) : w'.cell? ⟨w.heap.size, 0, none⟩ = some (.int .u64 H) ∧ w'.cell? ⟨w.heap.size, 1, none⟩ = some (.int .u64 L) ∧ w'.cell? ⟨w.heap.size + 1, 0, none⟩ = some (.int .u64 Q0) ∧ w'.cell? ⟨w.heap.size + 1, 1, none⟩ = some (.int .u64 Q1) ∧ w'.frozen? ⟨w.heap.size + 1, 0, none⟩ = false ∧ w'.frozen? ⟨w.heap.size + 1, 1, none⟩ = false :=
 ⟨(blk_cell h.x 0).trans rfl, (blk_cell h.x 1).trans rfl, (blk_cell h.q 0).trans rfl, (blk_cell h.q 1).trans rfl, blk_frozen h.q 0, blk_frozen h.q 1⟩
theorem CutW.alloc {w w' : World} {H L Q0 Q1 : Int} (h : CutW w w' H L Q0 Q1) (o : Obj) : CutW w (w'.alloc o) H L Q0 Q1 := ⟨blk_alloc h.x _, blk_alloc h.q _, below_alloc h.b _⟩
/-- beside them the box of what was dropped -/
structure CutR (w w' : World) (H L Q0 Q1 : Int) (g : Nat) (R0 R1 : Int) : Prop where
 c : CutW w w' H L Q0 Q1
 r : w'.heap[g]? = some (.cells #[.int .u64 R0, .int .u64 R1] 127 (0, 0))
 g : w.heap.size + 1 < g
theorem CutR.next {w w' w2 : World} {H L Q0 Q1 : Int} {g : Nat} {R0 R1 : Int} (h : CutR w w' H L Q0 Q1 g R0 R1) (hb : Below w'.heap.size w' w2) : CutR w w2 H L Q0 Q1 g R0 R1 := ⟨h.c.next hb, blk_below h.r hb, h.g⟩
theorem CutR.drew {w w' : World} {H L Q0 Q1 : Int} {g : Nat} {R0 R1 : Int} (h : CutR w w' H L Q0 Q1 g R0 R1) : CutR w w'.drew H L Q0 Q1 g R0 R1 := ⟨h.c.drew, h.r, h.g⟩
theorem CutR.cells {w w' : World} {H L Q0 Q1 : Int} {g : Nat} {R0 R1 : Int} (h : CutR w w' H L Q0 Q1 g R0 R1) : w'.cell? ⟨w.heap.size + 1, 0, none⟩ = some (.int .u64 Q0) ∧ w'.cell? ⟨w.heap.size + 1, 1, none⟩ = some (.int .u64 Q1) ∧ w'.frozen? ⟨w.heap.size + 1, 0, none⟩ = false ∧ w'.frozen? ⟨w.heap.size + 1, 1, none⟩ = false ∧ w'.cell? ⟨g, 0, none⟩ = some (.int .u64 R0) ∧ w'.cell? ⟨g, 1, none⟩ = some (.int .u64 R1) :=
 ⟨(blk_cell h.c.q 0).trans rfl, (blk_cell h.c.q 1).trans rfl, blk_frozen h.c.q 0, blk_frozen h.c.q 1, (blk_cell h.r 0).trans rfl, (blk_cell h.r 1).trans rfl⟩
theorem cut_new {w w' : World} {H L Q0 Q1 R0 R1 : Int} (h : CutW w w' H L Q0 Q1) : CutR w (w'.alloc (.cells #[.int .u64 R0, .int .u64 R1] 127)) H L Q0 Q1 w'.heap.size R0 R1 := ⟨h.alloc _, blk_new _ _, blk_lt h.q⟩
theorem cut_put {w w' : World} {H L Q0 Q1 R0 R1 : Int} {g : Nat} {u0 u1 : Value} (h : CutW w w' H L Q0 Q1) (hg : w'.heap[g]? = some (.cells #[u0, u1] 127 (0, 0))) (hl : w.heap.size + 1 < g) : CutR w ((w'.setCell ⟨g, 0, none⟩ (.int .u64 R0)).setCell ⟨g, 1, none⟩ (.int .u64 R1)) H L Q0 Q1 g R0 R1 :=
 ⟨⟨blk_far (blk_far h.x (by simp; omega) _) (by simp; omega) _, blk_far (blk_far h.q (by simp; omega) _) (by simp; omega) _, below_set (below_set h.b (by omega)) (by omega)⟩, blk_put (blk_put hg 0 _ rfl) 1 _ rfl, hl⟩
theorem cut_s {w w' : World} {H L Q0 Q1 : Int} (h : CutW w w' H L Q0 Q1) : (w'.cell? ⟨w.heap.size, 0, none⟩ = some (.int .u64 H) ∧ w'.cell? ⟨w.heap.size, 1, none⟩ = some (.int .u64 L) ∧ w'.cell? ⟨w.heap.size + 1, 0, none⟩ = some (.int .u64 Q0) ∧ w'.cell? ⟨w.heap.size + 1, 1, none⟩ = some (.int .u64 Q1)) ∧ Aside0 (CutW w w' H L Q0 Q1) := ⟨⟨h.cells.1, h.cells.2.1, h.cells.2.2.1, h.cells.2.2.2.1⟩, ⟨h⟩⟩
theorem CutW.far {w w' : World} {H L Q0 Q1 : Int} {g : Nat} (h : CutW w w' H L Q0 Q1) (hl : w.heap.size + 1 < g) (u v : Value) : CutW w ((w'.setCell ⟨g, 0, none⟩ u).setCell ⟨g, 1, none⟩ v) H L Q0 Q1 :=
 ⟨blk_far (blk_far h.x (by simp; omega) _) (by simp; omega) _, blk_far (blk_far h.q (by simp; omega) _) (by simp; omega) _, below_set (below_set h.b (by omega)) (by omega)⟩
theorem cut_r {w w' : World} {H L Q0 Q1 : Int} {g : Nat} {R0 R1 : Int} (h : CutR w w' H L Q0 Q1 g R0 R1) : (w'.cell? ⟨g, 0, none⟩ = some (.int .u64 R0) ∧ w'.cell? ⟨g, 1, none⟩ = some (.int .u64 R1)) ∧ Aside0 (CutR w w' H L Q0 Q1 g R0 R1) := ⟨⟨h.cells.2.2.2.2.1, h.cells.2.2.2.2.2⟩, ⟨h⟩⟩
theorem cut_fin {w w' : World} {H L Q0 Q1 : Int} {g : Nat} {R0 R1 : Int} (h : CutR w w' H L Q0 Q1 g R0 R1) :
  ((w'.setCell ⟨w.heap.size + 1, 0, none⟩ (.int .u64 Q0)).cell? ⟨w.heap.size + 1, 0, none⟩ = some (.int .u64 Q0) ∧ (w'.setCell ⟨w.heap.size + 1, 0, none⟩ (.int .u64 Q0)).cell? ⟨w.heap.size + 1, 1, none⟩ = some (.int .u64 Q1) ∧ (w'.setCell ⟨w.heap.size + 1, 0, none⟩ (.int .u64 Q0)).cell? ⟨g, 0, none⟩ = some (.int .u64 R0) ∧ (w'.setCell ⟨w.heap.size + 1, 0, none⟩ (.int .u64 Q0)).cell? ⟨g, 1, none⟩ = some (.int .u64 R1)) ∧
  (((w'.setCell ⟨w.heap.size + 1, 0, none⟩ (.int .u64 Q0)).setCell ⟨w.heap.size + 1, 1, none⟩ (.int .u64 Q1)).cell? ⟨w.heap.size + 1, 0, none⟩ = some (.int .u64 Q0) ∧ ((w'.setCell ⟨w.heap.size + 1, 0, none⟩ (.int .u64 Q0)).setCell ⟨w.heap.size + 1, 1, none⟩ (.int .u64 Q1)).cell? ⟨w.heap.size + 1, 1, none⟩ = some (.int .u64 Q1) ∧ ((w'.setCell ⟨w.heap.size + 1, 0, none⟩ (.int .u64 Q0)).setCell ⟨w.heap.size + 1, 1, none⟩ (.int .u64 Q1)).cell? ⟨g, 0, none⟩ = some (.int .u64 R0) ∧ ((w'.setCell ⟨w.heap.size + 1, 0, none⟩ (.int .u64 Q0)).setCell ⟨w.heap.size + 1, 1, none⟩ (.int .u64 Q1)).cell? ⟨g, 1, none⟩ = some (.int .u64 R1)) := by
 have q1 := blk_put h.c.q 0 (.int .u64 Q0) rfl
 have q2 := blk_put q1 1 (.int .u64 Q1) rfl
 have hg := h.g
 have r1 : (w'.setCell ⟨w.heap.size + 1, 0, none⟩ (.int .u64 Q0)).heap[g]? = _ := blk_far h.r (by simp; omega) _
 have r2 : ((w'.setCell ⟨w.heap.size + 1, 0, none⟩ (.int .u64 Q0)).setCell ⟨w.heap.size + 1, 1, none⟩ (.int .u64 Q1)).heap[g]? = _ := blk_far r1 (by simp; omega) _
 exact ⟨⟨(blk_cell q1 0).trans rfl, (blk_cell q1 1).trans rfl, (blk_cell r1 0).trans rfl, (blk_cell r1 1).trans rfl⟩, (blk_cell q2 0).trans rfl, (blk_cell q2 1).trans rfl, (blk_cell r2 0).trans rfl, (blk_cell r2 1).trans rfl⟩
theorem hl_zero (r : Nat) : (hiw r = 0 ∧ low r = 0) ↔ r = 0 := by unfold hiw low; omega
set_option maxHeartbeats 8000000 in
set_option maxRecDepth 100000 in
theorem cut_main (n d : Nat) (more : Bool) (hn : n < 340282366920938463463374607431768211456) (hd0 : 1 ≤ d) (hd1 : d ≤ 38) (w : World) (c : Int) (b : Bool)
  (hcm : c = if n % 10 ^ d = 10 ^ d - n % 10 ^ d then (if more = true then 1 else 0) else if n % 10 ^ d < 10 ^ d - n % 10 ^ d then -1 else 1) (hbm : b = (more || decide (n % 10 ^ d ≠ 0))) :
  Calls Tryz.prog 154 #[.agg #[.int .u64 (hiw n), .int .u64 (low n)], .int .i64 d, .bool more] w (CutP (hiw (n / 10 ^ d)) (low (n / 10 ^ d)) c b w) := by
 have hu := Tryz.underlying127
 obtain ⟨H, hH⟩ : ∃ H, H = hiw n := ⟨_, rfl⟩
 obtain ⟨L, hL⟩ : ∃ L, L = low n := ⟨_, rfl⟩
 rw [← hH, ← hL]
 have HH := Aside0.mk hH; have HL := Aside0.mk hL; have HN := Aside0.mk hn; have HC := Aside0.mk hcm; have HBM := Aside0.mk hbm
 clear hH hL hn hcm hbm
 have h0 : ((d : Int) == 0) = false := by rw [beq_eq_false_iff_ne]; omega
 have h38 : ¬ ((38 : Int) < (d : Int)) := by omega
 go_enter Tryz.func154, Tryz.ntmps154
 go_wp2
 go_loopw [9] (fun v9 wr => ∃ (m : Nat) (l Q0 Q1 : Int), v9 = .int .i64 l ∧ -17 ≤ l ∧ l ≤ 38 ∧ Aside0 (l.toNat + m = d) ∧ Aside0 (Q0 = hiw (n / 10 ^ m)) ∧ Aside0 (Q1 = low (n / 10 ^ m)) ∧ CutW w wr H L Q0 Q1) (fun v9 _ => (intOf v9).toNat)
 case atStart =>
  refine ⟨0, d, H, L, rfl, by omega, by omega, ⟨by omega⟩, ⟨by rw [HH.out]; simp⟩, ⟨by rw [HL.out]; simp⟩, ⟨blk_alloc (blk_new w _) _, ?_, ((Below.refl _ _).alloc (Nat.le_refl _) _).alloc (by simp) _⟩⟩
  have h := blk_new (w.alloc (.cells #[.int .u64 H, .int .u64 L] 127)) (.cells #[.int .u64 H, .int .u64 L] 127)
  simpa using h
 case round =>
  obtain ⟨m, l, Q0, Q1, rfl, hl1, hl2, HM, E0, E1, HW⟩ := hrel
  by_cases hlt : 0 < l
  ·have hcc := HW.cells
   obtain ⟨t, et, ht1, ht2, htl⟩ : ∃ t : Nat, (t : Int) = (if 18 < l then 18 else l) ∧ 1 ≤ t ∧ t ≤ 18 ∧ (l - 18).toNat + t = l.toNat := ⟨(if 18 < l then 18 else l).toNat, by split <;> omega, by split <;> omega, by split <;> omega, by split <;> omega⟩
   have ET := Aside0.mk et; have HTL := Aside0.mk htl
   clear et htl
   obtain ⟨P0, f0⟩ : ∃ P0, P0 = hiw (10 ^ t) := ⟨_, rfl⟩
   obtain ⟨P1, f1⟩ : ∃ P1, P1 = low (10 ^ t) := ⟨_, rfl⟩
   obtain ⟨R0, f2⟩ : ∃ R0, R0 = hiw (n / 10 ^ (m + t)) := ⟨_, rfl⟩
   obtain ⟨R1, f3⟩ : ∃ R1, R1 = low (n / 10 ^ (m + t)) := ⟨_, rfl⟩
   have hp18 := Nat.pow_le_pow_right (show 0 < 10 by decide) ht2
   have hpp := Nat.pow_pos (n := t) (show 0 < 10 by decide)
   have hpw : reals_power.f 40 t = some (P0, P1) := by rw [f0, f1]; exact power_is (by omega) 40 (by omega)
   have hP1 : P1 = ((10 ^ t : Nat) : Int) := by rw [f1]; unfold low; rw [Nat.mod_eq_of_lt (by omega)]
   have hov : reals_wide_over.f 14 Q0 Q1 P1 = some (R0, R1, ((n / 10 ^ m % 10 ^ t : Nat) : Int)) := by
    rw [E0.out, E1.out, hP1, f2, f3, Nat.pow_add, ← Nat.div_div_eq_div_mul]
    exact over_is (Nat.lt_of_le_of_lt (Nat.div_le_self _ _) HN.out) hpp (by omega) 0
   have F2 := Aside0.mk f2; have F3 := Aside0.mk f3; have HP := Aside0.mk hpw; have HO := Aside0.mk hov
   clear f0 f1 f2 f3 hp18 hpp hpw hP1 hov
   have hfld : ∀ W : World, (Instr.field 127 (.agg #[.int .u64 P0, .int .u64 P1]) 1).run Tryz.prog W = .ok (.int .u64 P1) W := fun _ => by kernel_rfl
   obtain ⟨c0, c1, c2, c3, c4, c5⟩ := HW.cells
   have HW0 := Aside0.mk HW
   clear HW hcc c0 c1
   by_cases h18 : 18 < l
   ·have e18 : (18 < l) = True := eq_true h18
    have HP2 : Aside0 (reals_power.f 40 18 = some (P0, P1)) := ⟨by have h := HP.out; rw [ET.out, if_pos h18] at h; exact h⟩
    clear h18 HP ET
    go_wp2_with fail
    go_region_with (first | (go_at_call 158; (with_reducible refine (reals_power.calls 40 18 P0 P1 _ HP2.out).mono ?_); rintro e w1 ⟨rfl, hb1⟩; have HW1 := Aside0.mk ((CutW.drew HW0.out).next hb1); clear hb1 c2 c3 c4 c5; obtain ⟨_, _, c2, c3, c4, c5⟩ := HW1.out.cells) | (go_at_call 157; (with_reducible refine (reals_wide_over.calls 14 Q0 Q1 P1 R0 R1 _ _ HO.out).mono ?_); rintro e w2 ⟨rfl, hb2⟩; have HW2 := Aside0.mk (HW1.out.next hb2); clear hb2 c2 c3 c4 c5; obtain ⟨_, _, c2, c3, c4, c5⟩ := HW2.out.cells))
    all_goals
     go_wp2_with fail
     go_roundw
     case rel => exact ⟨m + t, l - 18, R0, R1, rfl, by omega, by omega, ⟨by have := HM.out; have := HTL.out; omega⟩, F2, F3, HW2.out.put R0 R1⟩
     case measure => simp [intOf]; omega
   ·have e18 : (18 < l) = False := eq_false h18
    have HP2 : Aside0 (reals_power.f 40 l = some (P0, P1)) := ⟨by have h := HP.out; rw [ET.out, if_neg h18] at h; exact h⟩
    clear h18 HP ET
    go_wp2_with fail
    go_region_with (first | (go_at_call 158; (with_reducible refine (reals_power.calls 40 l P0 P1 _ HP2.out).mono ?_); rintro e w1 ⟨rfl, hb1⟩; have HW1 := Aside0.mk ((CutW.drew HW0.out).next hb1); clear hb1 c2 c3 c4 c5; obtain ⟨_, _, c2, c3, c4, c5⟩ := HW1.out.cells) | (go_at_call 157; (with_reducible refine (reals_wide_over.calls 14 Q0 Q1 P1 R0 R1 _ _ HO.out).mono ?_); rintro e w2 ⟨rfl, hb2⟩; have HW2 := Aside0.mk (HW1.out.next hb2); clear hb2 c2 c3 c4 c5; obtain ⟨_, _, c2, c3, c4, c5⟩ := HW2.out.cells))
    all_goals
     go_wp2_with fail
     go_roundw
     case rel => exact ⟨m + t, l - 18, R0, R1, rfl, by omega, by omega, ⟨by have := HM.out; have := HTL.out; omega⟩, F2, F3, HW2.out.put R0 R1⟩
     case measure => simp [intOf]; omega
  ·have em : m = d := by have := HM.out; omega
   subst em
   obtain ⟨c0, c1, c2, c3, c4, c5⟩ := HW.cells
   have HW0 := Aside0.mk HW
   clear HW HM c4 c5
   -- what is left, and its product
   obtain ⟨S0, f0⟩ : ∃ S0, S0 = hiw (n / 10 ^ m * 10 ^ m) := ⟨_, rfl⟩
   obtain ⟨S1, f1⟩ : ∃ S1, S1 = low (n / 10 ^ m * 10 ^ m) := ⟨_, rfl⟩
   obtain ⟨R0, f2⟩ : ∃ R0, R0 = hiw (n % 10 ^ m) := ⟨_, rfl⟩
   obtain ⟨R1, f3⟩ : ∃ R1, R1 = low (n % 10 ^ m) := ⟨_, rfl⟩
   have hle := Nat.div_mul_le_self n (10 ^ m)
   have hsc : reals_wide_scaled.f 40 Q0 Q1 m = some (S0, S1) := by
    rw [E0.out, E1.out, f0, f1]; exact scaled_is (by omega) (Nat.lt_of_le_of_lt hle HN.out) 40 (by omega)
   have hmi : reals_wide_minus.f H L S0 S1 = some (R0, R1) := by
    rw [HH.out, HL.out, f0, f1, f2, f3, minus_is HN.out hle]
    have : n - n / 10 ^ m * 10 ^ m = n % 10 ^ m := by have := Nat.div_add_mod n (10 ^ m); rw [Nat.mul_comm] at this; omega
    rw [this]
   have HSC := Aside0.mk hsc; have HMI := Aside0.mk hmi; have F2 := Aside0.mk f2; have F3 := Aside0.mk f3
   clear hsc hmi f0 f1 f2 f3 hle
   go_upto_region 10 with fail
   go_cut [10] (fun s10 wx => ∃ g : Nat, s10 = .pointer (some ⟨g, 0, none⟩) ∧ Aside0 (CutR w wx H L Q0 Q1 g R0 R1))
   case first =>
    have hg0 := Aside0.mk (blk_lt HW0.out.q)
    go_region_held3 (fun w' => (w'.cell? ⟨w.heap.size, 0, none⟩ = some (.int .u64 H) ∧ w'.cell? ⟨w.heap.size, 1, none⟩ = some (.int .u64 L) ∧ w'.cell? ⟨w.heap.size + 1, 0, none⟩ = some (.int .u64 Q0) ∧ w'.cell? ⟨w.heap.size + 1, 1, none⟩ = some (.int .u64 Q1)) ∧ Aside0 (CutW w w' H L Q0 Q1)) (((try go_split_ands); (refine cut_s ?_); (repeat (first | (refine Aside0.out ?_; assumption) | refine CutW.next ?_ hb1 | refine CutW.next ?_ hb2 | refine CutW.drew ?_ | refine CutW.alloc ?_ _ | refine CutW.far ?_ hg0.out _ _ | refine CutW.far ?_ hg1.out _ _)))) (first | (go_at_call 162; (with_reducible refine (reals_wide_scaled.calls 40 Q0 Q1 _ S0 S1 _ HSC.out).mono ?_); rintro e w1 ⟨rfl, hb1⟩; have HW1 : Aside0 (CutW w w1 H L Q0 Q1) := ⟨by first | exact HW0.out.drew.next hb1 | exact (HW0.out.drew.alloc _).next hb1 | exact (HW0.out.alloc _).drew.next hb1⟩; have hg1 := Aside0.mk (blk_lt HW1.out.q); (try have BN := Aside0.mk (blk_below (blk_new _ _) hb1)); (try have BN := Aside0.mk (blk_below (blk_drew (blk_new _ _)) hb1))) | (go_at_call 159; (with_reducible refine (reals_wide_minus.calls H L S0 S1 R0 R1 _ HMI.out).mono ?_); rintro e w2 ⟨rfl, hb2⟩; have HW2 : Aside0 (CutW w w2 H L Q0 Q1) := ⟨by first | exact HW1.out.next hb2 | exact (HW1.out.alloc _).next hb2⟩; (try have BN2 := Aside0.mk (blk_below BN.out hb2)); (try have BN2 := Aside0.mk (blk_below (blk_new _ _) hb2)); (try have cn0 := (blk_cell BN2.out 0).trans rfl); (try have cn1 := (blk_cell BN2.out 1).trans rfl); (try have fn0 := blk_frozen BN2.out 0); (try have fn1 := blk_frozen BN2.out 1)))
    all_goals (go_wp2_with fail; go_meet; first | exact ⟨_, rfl, ⟨cut_new HW2.out⟩⟩ | exact ⟨_, rfl, ⟨cut_put HW2.out BN2.out hg1.out⟩⟩ | exact ⟨_, rfl, ⟨cut_put HW2.out BN2.out hg0.out⟩⟩)
   case rest =>
    clear HW0 HSC HMI c0 c1 c2 c3
    obtain ⟨g, rfl, HR⟩ := hcut
    obtain ⟨P0, f0⟩ : ∃ P0, P0 = hiw (10 ^ m) := ⟨_, rfl⟩
    obtain ⟨P1, f1⟩ : ∃ P1, P1 = low (10 ^ m) := ⟨_, rfl⟩
    obtain ⟨T0, f2⟩ : ∃ T0, T0 = hiw (10 ^ m - n % 10 ^ m) := ⟨_, rfl⟩
    obtain ⟨T1, f3⟩ : ∃ T1, T1 = low (10 ^ m - n % 10 ^ m) := ⟨_, rfl⟩
    obtain ⟨c0, f4⟩ : ∃ c0 : Int, c0 = (if n % 10 ^ m = 10 ^ m - n % 10 ^ m then 0 else if n % 10 ^ m < 10 ^ m - n % 10 ^ m then -1 else 1) := ⟨_, rfl⟩
    have hpw : reals_power.f 40 m = some (P0, P1) := by rw [f0, f1]; exact power_is (by omega) 40 (by omega)
    have hlt : n % 10 ^ m < 10 ^ m := Nat.mod_lt _ (Nat.pow_pos (by omega))
    have hp38 : 10 ^ m ≤ 10 ^ 38 := Nat.pow_le_pow_right (by omega) (by omega)
    have hm2 : reals_wide_minus.f P0 P1 R0 R1 = some (T0, T1) := by
     rw [F2.out, F3.out, f0, f1, f2, f3]; exact minus_is (Nat.lt_of_le_of_lt hp38 (by omega)) (by omega)
    have hcp : reals_wide_compare.f R0 R1 T0 T1 = some c0 := by rw [F2.out, F3.out, f2, f3, f4]; exact cmp_is _ _
    have hcc : c = if c0 = 0 then (if more = true then 1 else 0) else c0 := by
     rw [HC.out, f4]; split
     ·rfl
     ·split <;> simp
    have HPW := Aside0.mk hpw; have HM2 := Aside0.mk hm2; have HCP := Aside0.mk hcp; have HCC := Aside0.mk hcc
    clear hpw hm2 hcp hcc hlt hp38 f0 f1 f2 f3 f4 HC
    obtain ⟨_, _, _, _, r0, r1⟩ := HR.out.cells
    go_upto_region 11 with fail
    go_region_held3 (fun w' => (w'.cell? ⟨g, 0, none⟩ = some (.int .u64 R0) ∧ w'.cell? ⟨g, 1, none⟩ = some (.int .u64 R1)) ∧ Aside0 (CutR w w' H L Q0 Q1 g R0 R1)) (((try go_split_ands); (refine cut_r ?_); (repeat (first | (refine Aside0.out ?_; assumption) | refine CutR.next ?_ hb1 | refine CutR.next ?_ hb2 | refine CutR.next ?_ hb3 | refine CutR.drew ?_)))) (first | (go_at_call 158; (with_reducible refine (reals_power.calls 40 _ P0 P1 _ HPW.out).mono ?_); rintro e w1 ⟨rfl, hb1⟩; have HR1 : Aside0 (CutR w w1 H L Q0 Q1 g R0 R1) := ⟨HR.out.drew.next hb1⟩) | (go_at_call 159; (with_reducible refine (reals_wide_minus.calls P0 P1 R0 R1 T0 T1 _ HM2.out).mono ?_); rintro e w2 ⟨rfl, hb2⟩; have HR2 : Aside0 (CutR w w2 H L Q0 Q1 g R0 R1) := ⟨HR1.out.next hb2⟩) | (go_at_call 137; (with_reducible refine (reals_wide_compare.calls R0 R1 T0 T1 c0 _ HCP.out).mono ?_); rintro e w3 ⟨rfl, hb3⟩; have HR3 : Aside0 (CutR w w3 H L Q0 Q1 g R0 R1) := ⟨HR2.out.next hb3⟩))
    have HB3 := Aside0.mk HR3.out.c.b
    clear r0 r1
    obtain ⟨q0, q1, fq0, fq1, r0, r1⟩ := HR3.out.cells
    obtain ⟨⟨qa, qb, ra, rb⟩, qc, qd, rc, rd⟩ := cut_fin HR3.out
    have hrz : (R0 = 0 ∧ R1 = 0) ↔ n % 10 ^ m = 0 := by rw [F2.out, F3.out]; exact hl_zero _
    have hbb : b = (more || decide (¬ (R0 = 0 ∧ R1 = 0))) := by rw [HBM.out]; simp only [ne_eq, hrz]
    have hcc := HCC.out
    clear hrz HCC HBM HR1 HR2 HR3 hb1 hb2 hb3 HR HPW HM2 HCP
    by_cases hz : c0 = 0
    ·subst hz
     simp only [if_true] at hcc
     cases more with
     | true =>
      simp only [if_true] at hcc
      simp only [Bool.true_or] at hbb
      subst hcc; subst hbb
      go_wp2
      go_region
      all_goals go_wp2
      all_goals exact bodyPost_ret (v := .tuple #[.agg #[.int .u64 Q0, .int .u64 Q1], .int .i64 1, .bool true]) (by simp [results, Tryz.results154, go_sem, qa, qb]) rfl ⟨by rw [E0.out, E1.out], by repeat (first | exact HB3.out | apply below_alloc | apply below_drew1 | apply pw_below_drewN | refine below_set ?_ (by simp))⟩
     | false =>
      simp only [Bool.false_eq_true, if_false] at hcc
      simp only [Bool.false_or] at hbb
      subst hcc
      by_cases hx : R0 = 0
      ·by_cases hy : R1 = 0
       ·obtain rfl : b = false := by rw [hbb, hx, hy]; rfl
        subst hx; subst hy
        clear hbb
        go_wp2
        go_region
        all_goals go_wp2
        all_goals exact bodyPost_ret (v := .tuple #[.agg #[.int .u64 Q0, .int .u64 Q1], .int .i64 0, .bool false]) (by simp [results, Tryz.results154, go_sem, qa, qb]) rfl ⟨by rw [E0.out, E1.out], by repeat (first | exact HB3.out | apply below_alloc | apply below_drew1 | apply pw_below_drewN | refine below_set ?_ (by simp))⟩
       ·obtain rfl : b = true := by rw [hbb]; exact decide_eq_true (fun h => hy h.2)
        subst hx
        clear hbb
        go_wp2
        go_region
        all_goals go_wp2
        all_goals exact bodyPost_ret (v := .tuple #[.agg #[.int .u64 Q0, .int .u64 Q1], .int .i64 0, .bool true]) (by simp [results, Tryz.results154, go_sem, qa, qb]) rfl ⟨by rw [E0.out, E1.out], by repeat (first | exact HB3.out | apply below_alloc | apply below_drew1 | apply pw_below_drewN | refine below_set ?_ (by simp))⟩
      ·obtain rfl : b = true := by rw [hbb]; exact decide_eq_true (fun h => hx h.1)
       clear hbb
       go_wp2
       go_region
       all_goals go_wp2
       all_goals exact bodyPost_ret (v := .tuple #[.agg #[.int .u64 Q0, .int .u64 Q1], .int .i64 0, .bool true]) (by simp [results, Tryz.results154, go_sem, qa, qb]) rfl ⟨by rw [E0.out, E1.out], by repeat (first | exact HB3.out | apply below_alloc | apply below_drew1 | apply pw_below_drewN | refine below_set ?_ (by simp))⟩
    ·have ez : (c0 == 0) = false := by rw [beq_eq_false_iff_ne]; exact hz
     rw [if_neg hz] at hcc
     subst hcc
     clear hz
     cases more with
     | true =>
      simp only [Bool.true_or] at hbb
      subst hbb
      go_wp2
      go_region
      all_goals go_wp2
      all_goals exact bodyPost_ret (v := .tuple #[.agg #[.int .u64 Q0, .int .u64 Q1], .int .i64 c, .bool true]) (by simp [results, Tryz.results154, go_sem, qa, qb]) rfl ⟨by rw [E0.out, E1.out], by repeat (first | exact HB3.out | apply below_alloc | apply below_drew1 | apply pw_below_drewN | refine below_set ?_ (by simp))⟩
     | false =>
      simp only [Bool.false_or] at hbb
      by_cases hx : R0 = 0
      ·by_cases hy : R1 = 0
       ·obtain rfl : b = false := by rw [hbb, hx, hy]; rfl
        subst hx; subst hy
        clear hbb
        go_wp2
        go_region
        all_goals go_wp2
        all_goals exact bodyPost_ret (v := .tuple #[.agg #[.int .u64 Q0, .int .u64 Q1], .int .i64 c, .bool false]) (by simp [results, Tryz.results154, go_sem, qa, qb]) rfl ⟨by rw [E0.out, E1.out], by repeat (first | exact HB3.out | apply below_alloc | apply below_drew1 | apply pw_below_drewN | refine below_set ?_ (by simp))⟩
       ·obtain rfl : b = true := by rw [hbb]; exact decide_eq_true (fun h => hy h.2)
        subst hx
        clear hbb
        go_wp2
        go_region
        all_goals go_wp2
        all_goals exact bodyPost_ret (v := .tuple #[.agg #[.int .u64 Q0, .int .u64 Q1], .int .i64 c, .bool true]) (by simp [results, Tryz.results154, go_sem, qa, qb]) rfl ⟨by rw [E0.out, E1.out], by repeat (first | exact HB3.out | apply below_alloc | apply below_drew1 | apply pw_below_drewN | refine below_set ?_ (by simp))⟩
      ·obtain rfl : b = true := by rw [hbb]; exact decide_eq_true (fun h => hx h.1)
       clear hbb
       go_wp2
       go_region
       all_goals go_wp2
       all_goals exact bodyPost_ret (v := .tuple #[.agg #[.int .u64 Q0, .int .u64 Q1], .int .i64 c, .bool true]) (by simp [results, Tryz.results154, go_sem, qa, qb]) rfl ⟨by rw [E0.out, E1.out], by repeat (first | exact HB3.out | apply below_alloc | apply below_drew1 | apply pw_below_drewN | refine below_set ?_ (by simp))⟩

theorem reals_wide_cut.calls (a0_0 : Int) (a0_1 : Int) (a1 : Int) (a2 : Bool) (r1 : Int) (r2 : Int) (r3 : Int) (r4 : Bool) (w : World) (h : reals_wide_cut.f a0_0 a0_1 a1 a2 = some (r1, r2, r3, r4)) :
  Calls Tryz.prog 154 #[.agg #[.int .u64 a0_0, .int .u64 a0_1], .int .i64 a1, .bool a2] w fun e w' => e = .returned (.tuple #[.agg #[.int .u64 r1, .int .u64 r2], .int .i64 r3, .bool r4]) ∧ Below w.heap.size w w' := by
 unfold reals_wide_cut.f at h
 by_cases hc : (U64 a0_0 ∧ U64 a0_1) ∧ (0 ≤ a1 ∧ a1 ≤ 1000000)
 ·rw [if_pos hc] at h
  obtain ⟨⟨u0, u1⟩, d0, d1⟩ := hc
  obtain ⟨n, rfl, rfl, hn⟩ := hl_of u0 u1
  have hw : (wv (hiw n) (low n)).toNat = n := by unfold wv hiw low u64s; omega
  rw [hw] at h
  obtain ⟨d, rfl⟩ : ∃ d : Nat, a1 = (d : Int) := ⟨a1.toNat, by omega⟩
  rw [Int.toNat_natCast] at h
  simp only [Option.some.injEq, Prod.mk.injEq] at h
  obtain ⟨h1, h2, h3⟩ := h
  have h4 := congrArg Prod.fst h3; have h5 := congrArg Prod.snd h3
  simp only at h4 h5
  clear h3 u0 u1 hw
  unfold cutS at h1 h2 h4 h5
  by_cases e0 : d = 0
  ·subst e0
   simp only [if_true] at h1 h2 h4 h5
   subst h1; subst h2; subst h4; subst h5
   exact cut_zero _ _ _ w
  ·simp only [if_neg e0] at h1 h2 h4 h5
   by_cases e1 : 38 < d
   ·simp only [if_pos e1] at h1 h2 h4 h5
    have g1 : hiw 0 = 0 := rfl
    have g2 : low 0 = 0 := rfl
    rw [g1] at h1; rw [g2] at h2
    subst h1; subst h2; subst h4
    exact cut_far _ _ _ _ _ w (by omega) (by rw [← h5]; simp only [hl_zero])
   ·simp only [if_neg e1] at h1 h2 h4 h5
    subst h1; subst h2
    exact cut_main n d a2 hn (by omega) (by omega) w r3 r4 h4.symm h5.symm
 ·rw [if_neg hc] at h; simp at h

/-! ### reals_exact_away: function 155 -/
def reals_exact_away.f (a0_0 : Bool) (a0_1 : Int) (a0_2 : Int) (a0_3 : Int) (a0_4 : Bool) (a1 : Int) (a2 : Bool) (a3 : Int) (a4 : Bool) : Option (Bool) := if a1 = 0 then (if a3 > 0 then (some true) else (if a3 = 0 then (some a2) else (some false))) else (if a1 = 1 then (if a0_0 = true then (some false) else (some a4)) else (if a1 = 2 then (if a0_0 = true then (some a4) else (some false)) else (some false)))
set_option maxHeartbeats 8000000 in
set_option maxRecDepth 100000 in
theorem reals_exact_away.calls (a0_0 : Bool) (a0_1 : Int) (a0_2 : Int) (a0_3 : Int) (a0_4 : Bool) (a1 : Int) (a2 : Bool) (a3 : Int) (a4 : Bool) (r : Bool) (w : World) (h : reals_exact_away.f a0_0 a0_1 a0_2 a0_3 a0_4 a1 a2 a3 a4 = some r) :
  Calls Tryz.prog 155 #[.agg #[.bool a0_0, .int .u64 a0_1, .int .u64 a0_2, .int .i64 a0_3, .bool a0_4], .int .i64 a1, .bool a2, .int .i64 a3, .bool a4] w fun e w' => e = .returned (.bool r) ∧ Below w.heap.size w w' := by
 have hu150 := Tryz.underlying150
 have HB := Aside0.mk (Below.refl w.heap.size w)
 have H : (if a1 = 0 then (if a3 > 0 then (some true) else (if a3 = 0 then (some a2) else (some false))) else (if a1 = 1 then (if a0_0 = true then (some false) else (some a4)) else (if a1 = 2 then (if a0_0 = true then (some a4) else (some false)) else (some false)))) = some r := h
 clear h
 by_cases c6 : a1 = 0
 ·rw [if_pos c6] at H
  have c6b0 : (a1 == 0) = true := beq_iff_eq.mpr c6
  have c6b1 : (a1 != 0) = false := bne_eq_false_iff_eq.mpr c6
  clear c6
  by_cases c7 : a3 > 0
  ·rw [if_pos c7] at H
   have c7b0 : decide (0 < a3) = true := decide_eq_true c7
   clear c7
   obtain rfl := Option.some.inj H
   go_enter Tryz.func155, Tryz.ntmps155
   go_wp2_with (first | ((with_reducible refine gate_dst (N := 5) rfl ?_); refine box_event ?hg (N := 5) ?hd (cs := #[.bool a0_0, .int .u64 a0_1, .int .u64 a0_2, .int .i64 a0_3, .bool a0_4]) (t := 150) ?hr ?_; (case hd => rfl); (case hg => rfl); (case hr => first | (go_simp; done) | (go_simp; rfl)); intro gb219 hg w8 hbox hb; have BK219 := Aside0.mk (hbox); have GW219 := Aside0.mk (bs HB hg : w.heap.size ≤ gb219); replace HB := Aside0.mk (below_step (bw HB) hb); clear hb hbox hg))
   go_ret
   exact ⟨by first | rfl | (simp [errW_none, errW_some] <;> rfl) | (simp [*, errW_none, errW_some] <;> rfl), bw HB⟩
  ·rw [if_neg c7] at H
   have c7b0 : decide (0 < a3) = false := decide_eq_false c7
   clear c7
   by_cases c9 : a3 = 0
   ·rw [if_pos c9] at H
    have c9b0 : (a3 == 0) = true := beq_iff_eq.mpr c9
    have c9b1 : (a3 != 0) = false := bne_eq_false_iff_eq.mpr c9
    clear c9
    obtain rfl := Option.some.inj H
    go_enter Tryz.func155, Tryz.ntmps155
    go_wp2_with (first | ((with_reducible refine gate_dst (N := 5) rfl ?_); refine box_event ?hg (N := 5) ?hd (cs := #[.bool a0_0, .int .u64 a0_1, .int .u64 a0_2, .int .i64 a0_3, .bool a0_4]) (t := 150) ?hr ?_; (case hd => rfl); (case hg => rfl); (case hr => first | (go_simp; done) | (go_simp; rfl)); intro gb219 hg w10 hbox hb; have BK219 := Aside0.mk (hbox); have GW219 := Aside0.mk (bs HB hg : w.heap.size ≤ gb219); replace HB := Aside0.mk (below_step (bw HB) hb); clear hb hbox hg))
    go_ret
    exact ⟨by first | rfl | (simp [errW_none, errW_some] <;> rfl) | (simp [*, errW_none, errW_some] <;> rfl), bw HB⟩
   ·rw [if_neg c9] at H
    have c9b0 : (a3 == 0) = false := beq_eq_false_iff_ne.mpr c9
    have c9b1 : (a3 != 0) = true := bne_iff_ne.mpr c9
    obtain rfl := Option.some.inj H
    go_enter Tryz.func155, Tryz.ntmps155
    go_wp2_with (first | ((with_reducible refine gate_dst (N := 5) rfl ?_); refine box_event ?hg (N := 5) ?hd (cs := #[.bool a0_0, .int .u64 a0_1, .int .u64 a0_2, .int .i64 a0_3, .bool a0_4]) (t := 150) ?hr ?_; (case hd => rfl); (case hg => rfl); (case hr => first | (go_simp; done) | (go_simp; rfl)); intro gb219 hg w11 hbox hb; have BK219 := Aside0.mk (hbox); have GW219 := Aside0.mk (bs HB hg : w.heap.size ≤ gb219); replace HB := Aside0.mk (below_step (bw HB) hb); clear hb hbox hg))
    go_ret
    exact ⟨by first | rfl | (simp [errW_none, errW_some] <;> rfl) | (simp [*, errW_none, errW_some] <;> rfl), bw HB⟩
 ·rw [if_neg c6] at H
  have c6b0 : (a1 == 0) = false := beq_eq_false_iff_ne.mpr c6
  have c6b1 : (a1 != 0) = true := bne_iff_ne.mpr c6
  by_cases c12 : a1 = 1
  ·rw [if_pos c12] at H
   have c12b0 : (a1 == 1) = true := beq_iff_eq.mpr c12
   have c12b1 : (a1 != 1) = false := bne_eq_false_iff_eq.mpr c12
   clear c12
   by_cases c13 : a0_0 = true
   ·subst c13
    have H1 : (some false) = some r := by rw [if_pos rfl] at H; exact H
    clear H
    have H := H1
    clear H1
    obtain rfl := Option.some.inj H
    go_enter Tryz.func155, Tryz.ntmps155
    go_wp2_with (first | ((with_reducible refine gate_dst (N := 5) rfl ?_); refine box_event ?hg (N := 5) ?hd (cs := #[.bool true, .int .u64 a0_1, .int .u64 a0_2, .int .i64 a0_3, .bool a0_4]) (t := 150) ?hr ?_; (case hd => rfl); (case hg => rfl); (case hr => first | (go_simp; done) | (go_simp; rfl)); intro gb219 hg w14 hbox hb; have BK219 := Aside0.mk (hbox); have GW219 := Aside0.mk (bs HB hg : w.heap.size ≤ gb219); replace HB := Aside0.mk (below_step (bw HB) hb); clear hb hbox hg; obtain ⟨hcz15_0, hcz15_1, hcz15_2, hcz15_3, hcz15_4, hfz15_0, hfz15_1, hfz15_2, hfz15_3, hfz15_4⟩ := cf5 BK219))
    go_ret
    exact ⟨by first | rfl | (simp [errW_none, errW_some] <;> rfl) | (simp [*, errW_none, errW_some] <;> rfl), bw HB⟩
   ·replace c13 := Bool.eq_false_iff.mpr c13
    subst c13
    have H1 : (some a4) = some r := by rw [if_neg (show ¬ (false = true) by decide)] at H; exact H
    clear H
    have H := H1
    clear H1
    obtain rfl := Option.some.inj H
    go_enter Tryz.func155, Tryz.ntmps155
    go_wp2_with (first | ((with_reducible refine gate_dst (N := 5) rfl ?_); refine box_event ?hg (N := 5) ?hd (cs := #[.bool false, .int .u64 a0_1, .int .u64 a0_2, .int .i64 a0_3, .bool a0_4]) (t := 150) ?hr ?_; (case hd => rfl); (case hg => rfl); (case hr => first | (go_simp; done) | (go_simp; rfl)); intro gb219 hg w16 hbox hb; have BK219 := Aside0.mk (hbox); have GW219 := Aside0.mk (bs HB hg : w.heap.size ≤ gb219); replace HB := Aside0.mk (below_step (bw HB) hb); clear hb hbox hg; obtain ⟨hcz17_0, hcz17_1, hcz17_2, hcz17_3, hcz17_4, hfz17_0, hfz17_1, hfz17_2, hfz17_3, hfz17_4⟩ := cf5 BK219))
    go_ret
    exact ⟨by first | rfl | (simp [errW_none, errW_some] <;> rfl) | (simp [*, errW_none, errW_some] <;> rfl), bw HB⟩
  ·rw [if_neg c12] at H
   have c12b0 : (a1 == 1) = false := beq_eq_false_iff_ne.mpr c12
   have c12b1 : (a1 != 1) = true := bne_iff_ne.mpr c12
   by_cases c18 : a1 = 2
   ·rw [if_pos c18] at H
    have c18b0 : (a1 == 2) = true := beq_iff_eq.mpr c18
    have c18b1 : (a1 != 2) = false := bne_eq_false_iff_eq.mpr c18
    clear c18
    by_cases c19 : a0_0 = true
    ·subst c19
     have H1 : (some a4) = some r := by rw [if_pos rfl] at H; exact H
     clear H
     have H := H1
     clear H1
     obtain rfl := Option.some.inj H
     go_enter Tryz.func155, Tryz.ntmps155
     go_wp2_with (first | ((with_reducible refine gate_dst (N := 5) rfl ?_); refine box_event ?hg (N := 5) ?hd (cs := #[.bool true, .int .u64 a0_1, .int .u64 a0_2, .int .i64 a0_3, .bool a0_4]) (t := 150) ?hr ?_; (case hd => rfl); (case hg => rfl); (case hr => first | (go_simp; done) | (go_simp; rfl)); intro gb219 hg w20 hbox hb; have BK219 := Aside0.mk (hbox); have GW219 := Aside0.mk (bs HB hg : w.heap.size ≤ gb219); replace HB := Aside0.mk (below_step (bw HB) hb); clear hb hbox hg; obtain ⟨hcz21_0, hcz21_1, hcz21_2, hcz21_3, hcz21_4, hfz21_0, hfz21_1, hfz21_2, hfz21_3, hfz21_4⟩ := cf5 BK219))
     go_ret
     exact ⟨by first | rfl | (simp [errW_none, errW_some] <;> rfl) | (simp [*, errW_none, errW_some] <;> rfl), bw HB⟩
    ·replace c19 := Bool.eq_false_iff.mpr c19
     subst c19
     have H1 : (some false) = some r := by rw [if_neg (show ¬ (false = true) by decide)] at H; exact H
     clear H
     have H := H1
     clear H1
     obtain rfl := Option.some.inj H
     go_enter Tryz.func155, Tryz.ntmps155
     go_wp2_with (first | ((with_reducible refine gate_dst (N := 5) rfl ?_); refine box_event ?hg (N := 5) ?hd (cs := #[.bool false, .int .u64 a0_1, .int .u64 a0_2, .int .i64 a0_3, .bool a0_4]) (t := 150) ?hr ?_; (case hd => rfl); (case hg => rfl); (case hr => first | (go_simp; done) | (go_simp; rfl)); intro gb219 hg w22 hbox hb; have BK219 := Aside0.mk (hbox); have GW219 := Aside0.mk (bs HB hg : w.heap.size ≤ gb219); replace HB := Aside0.mk (below_step (bw HB) hb); clear hb hbox hg; obtain ⟨hcz23_0, hcz23_1, hcz23_2, hcz23_3, hcz23_4, hfz23_0, hfz23_1, hfz23_2, hfz23_3, hfz23_4⟩ := cf5 BK219))
     go_ret
     exact ⟨by first | rfl | (simp [errW_none, errW_some] <;> rfl) | (simp [*, errW_none, errW_some] <;> rfl), bw HB⟩
   ·rw [if_neg c18] at H
    have c18b0 : (a1 == 2) = false := beq_eq_false_iff_ne.mpr c18
    have c18b1 : (a1 != 2) = true := bne_iff_ne.mpr c18
    obtain rfl := Option.some.inj H
    go_enter Tryz.func155, Tryz.ntmps155
    go_wp2_with (first | ((with_reducible refine gate_dst (N := 5) rfl ?_); refine box_event ?hg (N := 5) ?hd (cs := #[.bool a0_0, .int .u64 a0_1, .int .u64 a0_2, .int .i64 a0_3, .bool a0_4]) (t := 150) ?hr ?_; (case hd => rfl); (case hg => rfl); (case hr => first | (go_simp; done) | (go_simp; rfl)); intro gb219 hg w24 hbox hb; have BK219 := Aside0.mk (hbox); have GW219 := Aside0.mk (bs HB hg : w.heap.size ≤ gb219); replace HB := Aside0.mk (below_step (bw HB) hb); clear hb hbox hg))
    go_ret
    exact ⟨by first | rfl | (simp [errW_none, errW_some] <;> rfl) | (simp [*, errW_none, errW_some] <;> rfl), bw HB⟩

-- NOT PRINTED: function 163 (bits_Add64)

/-! ### reals_wide_plus: function 156 -/
def reals_wide_plus.f (a0_0 : Int) (a0_1 : Int) (a1_0 : Int) (a1_1 : Int) : Option (Int × Int) := if U64 a0_0 ∧ U64 a0_1 ∧ U64 a1_0 ∧ U64 a1_1 then some ((a0_0 + a1_0 + (a0_1 + a1_1) / u64s) % u64s, (a0_1 + a1_1) % u64s) else none
set_option maxHeartbeats 1000000 in
theorem reals_wide_plus.calls (a0_0 : Int) (a0_1 : Int) (a1_0 : Int) (a1_1 : Int) (r1 : Int) (r2 : Int) (w : World) (h : reals_wide_plus.f a0_0 a0_1 a1_0 a1_1 = some (r1, r2)) :
  Calls Tryz.prog 156 #[.agg #[.int .u64 a0_0, .int .u64 a0_1], .agg #[.int .u64 a1_0, .int .u64 a1_1]] w fun e w' => e = .returned (.agg #[.int .u64 r1, .int .u64 r2]) ∧ Below w.heap.size w w' := by
 unfold reals_wide_plus.f at h
 by_cases hc : U64 a0_0 ∧ U64 a0_1 ∧ U64 a1_0 ∧ U64 a1_1
 ·rw [if_pos hc] at h
  simp only [Option.some.injEq, Prod.mk.injEq] at h
  obtain ⟨ha, hb, hd, he⟩ := hc
  obtain ⟨s, k, hs, e1, e2, hk⟩ : ∃ s k, (∀ w, (callFunc 163 #[.int .u64 a0_1, .int .u64 a1_1, .int .u64 0]).run Tryz.prog w = .ok (.value (.tuple #[.int .u64 s, .int .u64 k])) w) ∧ Aside0 (s = (a0_1 + a1_1) % u64s) ∧ Aside0 (k = (a0_1 + a1_1) / u64s) ∧ (k = 0 ∨ k = 1) :=
   ⟨_, _, fun w => run_add hb he (.inl rfl) w, ⟨by rw [Int.add_zero]⟩, ⟨by rw [Int.add_zero]⟩, by have := hb.out; have := he.out; unfold u64s at *; omega⟩
  obtain ⟨t, j, ht, e3⟩ : ∃ t j, (∀ w, (callFunc 163 #[.int .u64 a0_0, .int .u64 a1_0, .int .u64 k]).run Tryz.prog w = .ok (.value (.tuple #[.int .u64 t, .int .u64 j])) w) ∧ Aside0 (t = (a0_0 + a1_0 + k) % u64s) :=
   ⟨_, _, fun w => run_add ha hd hk w, ⟨rfl⟩⟩
  have H1 := Aside0.mk h.1; have H2 := Aside0.mk h.2
  clear h hk ha hb hd he
  have hu := Tryz.underlying127
  go_enter Tryz.func156, Tryz.ntmps156
  go_wp2
  refine bodyPost_ret (v := .agg #[.int .u64 t, .int .u64 s]) (by simp [results, Tryz.results156, go_sem]) rfl ⟨?_, ?_⟩
  ·rw [← H1.out, ← H2.out, e3.out, e1.out, e2.out]
  ·exact (((Below.refl _ _).alloc (Nat.le_refl _) _).alloc (by simp) _).alloc (by simp; omega) _
 ·rw [if_neg hc] at h; cases h
end Go.Proofs.YtckbmniiecbalaaGreatDoor.PT
