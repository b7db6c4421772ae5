import Derived.Test.YtamkjpjibkabaaaPRgE
import Derived.Test.YtamkjpjibkabaaaPRgF
import Derived.Test.YtamkjpjibkabaaaPRgG
import Derived.Test.YtamkjpjibkabaaaPRgH
import Derived.Test.YtamkjpjibkabaaaPRgI
import Derived.Test.YtamkjpjibkabaaaPRgJ
import Derived.Test.YtamkjpjibkabaaaPRgL
namespace Go.Proofs.Ytamkjpjibkabaaa.PR
open Go.RowKit Go.Proofs.YtamkjpjibkabaaaW.PrintWords Go.Proofs.YtamkjpjibkabaaaW.PrintLast Go.Proofs.YtamkjpjibkabaaaW.PrintMore
set_option linter.unusedVariables false
set_option linter.unusedSimpArgs false
theorem dg_one : dg 1 = 1 := by rw [dg_pos (by decide), show 1 / 10 = 0 from rfl, dg_zero]
theorem p10 (k : Nat) : 0 < 10 ^ k := Nat.pow_pos (by decide)
theorem dg_le_iff {n k : Nat} : dg n ≤ k ↔ n < 10 ^ k := by
  constructor
  · intro h; exact Nat.lt_of_lt_of_le (dg_lt n) (Nat.pow_le_pow_right (by decide) h)
  · intro h
    by_cases hz : n = 0
    · subst hz; rw [dg_zero]; omega
    · have := Nat.lt_of_le_of_lt (dg_le hz) h
      have := (Nat.pow_lt_pow_iff_right (show 1 < 10 by decide)).1 this
      omega
theorem dg_mul {n : Nat} (h : n ≠ 0) (k : Nat) : dg (n * 10 ^ k) = dg n + k := by
  have hd : dg n ≠ 0 := by have := dg_pos h; omega
  refine dg_is ?_ (.inr ?_)
  · rw [Nat.pow_add]; exact Nat.mul_lt_mul_of_pos_right (dg_lt n) (p10 k)
  · have : dg n + k - 1 = dg n - 1 + k := by omega
    rw [this, Nat.pow_add]; exact Nat.mul_le_mul_right _ (dg_le h)
theorem dg_add {n k s : Nat} (h : n ≠ 0) (hs : s < 10 ^ k) : dg (n * 10 ^ k + s) = dg n + k := by
  have hd : dg n ≠ 0 := by have := dg_pos h; omega
  refine dg_is ?_ (.inr ?_)
  · rw [Nat.pow_add]
    have h1 : (n + 1) * 10 ^ k ≤ 10 ^ dg n * 10 ^ k := Nat.mul_le_mul_right _ (dg_lt n)
    rw [Nat.add_mul, Nat.one_mul] at h1; omega
  · have : dg n + k - 1 = dg n - 1 + k := by omega
    rw [this, Nat.pow_add]; have := Nat.mul_le_mul_right (10 ^ k) (dg_le h); omega
theorem dg_div (n k : Nat) : dg (n / 10 ^ k) = dg n - k := by
  by_cases hz : n / 10 ^ k = 0
  · rw [hz, dg_zero]
    have : n < 10 ^ k := by
      rcases Nat.div_eq_zero_iff.1 hz with h | h
      · have := p10 k; omega
      · exact h
    have := dg_le_iff.2 this; omega
  · have e := Nat.div_add_mod n (10 ^ k)
    have hm := Nat.mod_lt n (p10 k)
    have := dg_add hz hm
    rw [Nat.mul_comm] at e
    rw [e] at this; omega
/-- how what is dropped compares to a half -/
def sdS (r m : Nat) (more : Bool) : Int := if r = m - r then (if more = true then 1 else 0) else if r < m - r then -1 else 1
/-- d digits dropped -/
def cutG (n d : Nat) (more : Bool) : Nat × Int × Bool := if d = 0 then (n, -1, more) else (n / 10 ^ d, sdS (n % 10 ^ d) (10 ^ d) more, more || decide (n % 10 ^ d ≠ 0))
def awayS (how : Int) (neg odd : Bool) (half : Int) (inexact : Bool) : Bool := if how = 0 then decide (half > 0) || (decide (half = 0) && odd) else if how = 1 then !neg && inexact else if how = 2 then neg && inexact else false
/-- the zeros at the end go over to the exponent -/
def strip (n : Nat) (e : Int) : Nat × Int := if h : n = 0 then (0, 0) else if n % 10 = 0 then strip (n / 10) (e + 1) else (n, e)
decreasing_by omega
def sgn (neg : Bool) (n : Nat) : Int := if neg = true then -(n : Int) else n
def real (neg : Bool) (x : Nat × Int) : (Int × Int) × Int := ((sgn neg x.1, x.2), 0)
def fin (p : Nat) (how : Int) (neg : Bool) (q : Nat) (t : Int) : (Int × Int) × Int :=
  if q = 0 then ((0, 0), 0) else if dg q + t > p + 400 then (if how = 0 ∨ how = 1 ∧ neg = false ∨ how = 2 ∧ neg = true then ((0, 0), 11) else real neg (10 ^ p - 1, 400)) else real neg (strip q t)
def dropS (p n : Nat) (e : Int) : Nat := max (dg n - p) (-400 - e).toNat
def up (how : Int) (neg : Bool) (c : Nat × Int × Bool) : Nat := c.1 + if awayS how neg (decide (c.1 % 2 = 1)) c.2.1 c.2.2 = true then 1 else 0
/-- a number rounded to p digits -/
def rnd (p : Nat) (how : Int) (neg : Bool) (n : Nat) (e : Int) (more : Bool) : (Int × Int) × Int := fin p how neg (up how neg (cutG n (dropS p n e) more)) (e + dropS p n e)
theorem strip_mul (n : Nat) (e : Int) (k : Nat) : strip (n * 10 ^ k) (e - k) = strip n e := by
  by_cases hz : n = 0
  · subst hz; rw [Nat.zero_mul]; unfold strip; simp
  · induction k generalizing e with
    | zero => simp
    | succ k ih =>
      rw [strip]
      have h0 : n * 10 ^ (k + 1) ≠ 0 := Nat.mul_ne_zero hz (by have := p10 (k + 1); omega)
      have h1 : n * 10 ^ (k + 1) % 10 = 0 := by rw [Nat.pow_succ, ← Nat.mul_assoc]; exact Nat.mul_mod_left _ _
      have h2 : n * 10 ^ (k + 1) / 10 = n * 10 ^ k := by rw [Nat.pow_succ, ← Nat.mul_assoc]; exact Nat.mul_div_cancel _ (by decide)
      rw [dif_neg h0, if_pos h1, h2, show e - ((k + 1 : Nat) : Int) + 1 = e - k by omega]
      exact ih e
theorem strip_ten (p : Nat) (t : Int) : strip (10 ^ p) t = (1, t + p) := by
  have h := strip_mul 1 (t + p) p
  rw [Nat.one_mul, show t + p - p = t by omega] at h
  rw [h]; unfold strip; simp
/-- the sticky rule: what stands behind the digits that are kept and the first one that is dropped counts only as more -/
theorem cut_sticky (n k s d : Nat) (more : Bool) (hs : s < 10 ^ k) (hd : d ≠ 0) : cutG (n * 10 ^ k + s) (d + k) more = cutG n d (more || decide (s ≠ 0)) := by
  unfold cutG
  rw [if_neg (by omega), if_neg hd]
  have hk := p10 k
  have hdp := p10 d
  have e1 : (n * 10 ^ k + s) / 10 ^ (d + k) = n / 10 ^ d := by
    rw [Nat.pow_add, Nat.mul_comm (10 ^ d), ← Nat.div_div_eq_div_mul, Nat.mul_comm n, Nat.mul_add_div hk, Nat.div_eq_of_lt hs, Nat.add_zero]
  have e2 : (n * 10 ^ k + s) % 10 ^ (d + k) = n % 10 ^ d * 10 ^ k + s := by
    rw [Nat.pow_add, Nat.mul_comm (10 ^ d), Nat.mod_mul, Nat.mul_comm n, Nat.mul_add_mod, Nat.mod_eq_of_lt hs, Nat.mul_add_div hk, Nat.div_eq_of_lt hs, Nat.add_zero, Nat.mul_comm (10 ^ k)]; omega
  rw [e1, e2]
  generalize hr : n % 10 ^ d = r
  have hr1 : r < 10 ^ d := by rw [← hr]; exact Nat.mod_lt _ hdp
  have e3 : 10 ^ (d + k) = 10 ^ d * 10 ^ k := Nat.pow_add ..
  obtain ⟨m, hm⟩ : ∃ m, 10 ^ d = 2 * m := ⟨5 * 10 ^ (d - 1), by
    have : d = d - 1 + 1 := by omega
    rw [this, Nat.pow_succ, Nat.add_sub_cancel]; omega⟩
  rw [e3, hm]
  rw [hm] at hr1
  generalize 10 ^ k = K at *
  congr 2
  · unfold sdS
    -- compare r with m
    rcases Nat.lt_trichotomy r m with h | h | h
    · have a1 : r * K + K ≤ m * K := by rw [← Nat.succ_mul]; exact Nat.mul_le_mul_right _ h
      have a2 : 2 * m * K = m * K + m * K := by rw [Nat.mul_assoc]; omega
      rw [a2]
      rw [if_neg (by omega), if_pos (by omega), if_neg (by omega), if_pos (by omega)]
    · subst h
      have a2 : 2 * r * K = r * K + r * K := by rw [Nat.mul_assoc]; omega
      rw [a2]
      by_cases hz : s = 0
      · subst hz; rw [if_pos (by omega), if_pos (by omega : r = 2 * r - r)]; simp
      · rw [if_neg (by omega), if_neg (by omega), if_pos (by omega : r = 2 * r - r)]; simp [hz]
    · have a1 : m * K + K ≤ r * K := by rw [← Nat.succ_mul]; exact Nat.mul_le_mul_right _ h
      have a2 : 2 * m * K = m * K + m * K := by rw [Nat.mul_assoc]; omega
      rw [a2]
      rw [if_neg (by omega), if_neg (by omega), if_neg (by omega), if_neg (by omega)]
  · have : (r * K + s ≠ 0) ↔ (s ≠ 0 ∨ r ≠ 0) := by
      constructor
      · intro h; by_cases hs0 : s = 0
        · right; rintro rfl; apply h; rw [hs0]; simp
        · exact .inl hs0
      · rintro (h | h)
        · omega
        · have := Nat.mul_pos (Nat.pos_of_ne_zero h) hk; omega
    have h3 : decide (r * K + s ≠ 0) = (decide (s ≠ 0) || decide (r ≠ 0)) := by rw [← Bool.decide_or, decide_eq_decide]; exact this
    rw [h3, Bool.or_assoc]
theorem rnd_sticky (p : Nat) (how : Int) (neg : Bool) (n : Nat) (e : Int) (k s : Nat) (more : Bool) (hs : s < 10 ^ k) (hn : dropS p n e ≠ 0) (hz : n ≠ 0) :
    rnd p how neg (n * 10 ^ k + s) (e - k) more = rnd p how neg n e (more || decide (s ≠ 0)) := by
  unfold rnd
  have hd : dropS p (n * 10 ^ k + s) (e - k) = dropS p n e + k := by
    unfold dropS at *; rw [dg_add hz hs]; omega
  rw [hd, cut_sticky n k s _ more hs hn]
  congr 1; omega
theorem cut_exact (n k : Nat) (d : Nat) (h : d ≤ k) : cutG (n * 10 ^ k) d false = (n * 10 ^ (k - d), -1, false) := by
  unfold cutG
  split
  · rename_i hd; subst hd; simp
  · have e : 10 ^ k = 10 ^ (k - d) * 10 ^ d := by rw [← Nat.pow_add]; congr 1; omega
    have hp := p10 d
    rw [e, ← Nat.mul_assoc, Nat.mul_mod_left, Nat.mul_div_cancel _ hp]
    unfold sdS; rw [if_neg (by omega), if_pos (by omega)]; simp
theorem up_exact (how : Int) (neg : Bool) (q : Nat) : up how neg (q, -1, false) = q := by
  unfold up awayS; simp
theorem fin_mul (p : Nat) (how : Int) (neg : Bool) (n : Nat) (t : Int) (k : Nat) : fin p how neg (n * 10 ^ k) (t - k) = fin p how neg n t := by
  by_cases hz : n = 0
  · subst hz; unfold fin; simp
  · unfold fin
    have h0 : n * 10 ^ k ≠ 0 := Nat.mul_ne_zero hz (by have := p10 k; omega)
    rw [if_neg h0, if_neg hz, dg_mul hz, strip_mul]
    congr 1
    simp only [eq_iff_iff]; omega
/-- an exact number may be written with more zeros -/
theorem rnd_scale (p : Nat) (how : Int) (neg : Bool) (n : Nat) (e : Int) (k : Nat) : rnd p how neg (n * 10 ^ k) (e - k) false = rnd p how neg n e false := by
  by_cases hz : n = 0
  · subst hz; unfold rnd; rw [Nat.zero_mul]
    have h : ∀ d, cutG 0 d false = (0, -1, false) := by
      intro d; have := cut_exact 0 d d (Nat.le_refl _); simpa using this
    rw [h, h, up_exact]; unfold fin; simp
  · by_cases hd : dropS p n e = 0
    · have h1 : dropS p (n * 10 ^ k) (e - k) ≤ k := by unfold dropS at *; rw [dg_mul hz]; omega
      unfold rnd
      rw [cut_exact n k _ h1, up_exact, hd, show cutG n 0 false = (n, -1, false) from rfl, up_exact]
      have := fin_mul p how neg n e (k - dropS p (n * 10 ^ k) (e - k))
      rw [Int.natCast_zero, Int.add_zero, ← this]; congr 1; omega
    · have := rnd_sticky p how neg n e k 0 false (p10 k) hd hz
      simpa using this
theorem up_le (how : Int) (neg : Bool) (n d : Nat) (more : Bool) : n / 10 ^ d ≤ up how neg (cutG n d more) ∧ up how neg (cutG n d more) ≤ n / 10 ^ d + 1 := by
  unfold up cutG
  split
  · rename_i h; subst h; rw [Nat.pow_zero, Nat.div_one]; simp only; split <;> omega
  · simp only; split <;> omega
theorem drop_lt (p n : Nat) (e : Int) : n / 10 ^ dropS p n e < 10 ^ p := by
  rw [← dg_le_iff, dg_div]; unfold dropS; omega
theorem up_lt (p : Nat) (how : Int) (neg : Bool) (n : Nat) (e : Int) (more : Bool) : up how neg (cutG n (dropS p n e) more) ≤ 10 ^ p := by
  have := up_le how neg n (dropS p n e) more
  have := drop_lt p n e
  omega
/-- the end of the rounding as the program does it -/
def finP (p : Nat) (how : Int) (neg : Bool) (q : Nat) (t : Int) : (Int × Int) × Int :=
  let q1 := if dg q > p then q / 10 else q
  let t1 := if dg q > p then t + 1 else t
  if q1 = 0 then ((0, 0), 0) else if dg q1 + max (t1 - 400) 0 > p then (if how = 0 ∨ how = 1 ∧ neg = false ∨ how = 2 ∧ neg = true then ((0, 0), 11) else real neg (10 ^ p - 1, 400)) else real neg (strip q1 t1)
theorem finP_is {p : Nat} (hp : p ≠ 0) (how : Int) (neg : Bool) {q : Nat} (hq : q ≤ 10 ^ p) (t : Int) : finP p how neg q t = fin p how neg q t := by
  unfold finP fin
  by_cases h : dg q > p
  · have h1 : ¬ q < 10 ^ p := fun h' => by have := dg_le_iff.2 h'; omega
    obtain rfl : q = 10 ^ p := by omega
    have e1 : dg (10 ^ p) = p + 1 := by have := dg_mul (n := 1) (by decide) p; rw [Nat.one_mul] at this; rw [this, dg_one]; omega
    have e2 : 10 ^ p / 10 = 10 ^ (p - 1) := by
      have : p = p - 1 + 1 := by omega
      rw [this, Nat.pow_succ, Nat.add_sub_cancel]; omega
    have e3 : dg (10 ^ (p - 1)) = p := by
      have := dg_mul (n := 1) (by decide) (p - 1); rw [Nat.one_mul] at this; rw [this, dg_one]; omega
    have z1 := p10 (p - 1)
    have z2 := p10 p
    simp only [if_pos h, e2]
    rw [if_neg (Nat.ne_of_gt z1), if_neg (Nat.ne_of_gt z2), e1, e3, strip_ten, strip_ten]
    have e4 : t + 1 + ((p - 1 : Nat) : Int) = t + p := by omega
    rw [e4]
    congr 1
    simp only [eq_iff_iff]; omega
  · simp only [if_neg h]
    by_cases hz : q = 0
    · rw [if_pos hz, if_pos hz]
    · rw [if_neg hz, if_neg hz]
      congr 1
      simp only [eq_iff_iff]; omega
/-- a valid number -/
structure Ok (p n : Nat) (e : Int) : Prop where
  z : n = 0 → e = 0
  t : n ≠ 0 → n % 10 ≠ 0
  d : dg n ≤ p
  l : -400 ≤ e
  h : e + dg n ≤ p + 400
theorem strip_ok {n : Nat} {e : Int} (h : n = 0 → e = 0) (h2 : n ≠ 0 → n % 10 ≠ 0) : strip n e = (n, e) := by
  unfold strip
  by_cases hz : n = 0
  · rw [dif_pos hz, hz, h hz]
  · rw [dif_neg hz, if_neg (h2 hz)]
theorem rnd_ok {p n : Nat} {e : Int} (how : Int) (neg : Bool) (h : Ok p n e) : rnd p how neg n e false = real neg (n, e) := by
  have hd : dropS p n e = 0 := by have := h.d; have := h.l; unfold dropS; omega
  unfold rnd
  rw [hd, show cutG n 0 false = (n, -1, false) from rfl, up_exact]
  unfold fin
  by_cases hz : n = 0
  · rw [if_pos hz, hz, h.z hz]; unfold real sgn; cases neg <;> rfl
  · rw [if_neg hz, if_neg (by have := h.h; omega)]
    rw [strip_ok (fun _ => by omega) h.t]; simp
theorem strip_val (n : Nat) (e : Int) (h : n ≠ 0) : ∃ k : Nat, n = (strip n e).1 * 10 ^ k ∧ (strip n e).2 = e + k ∧ (strip n e).1 % 10 ≠ 0 := by
  induction n using Nat.strongRecOn generalizing e with
  | ind n ih =>
    rw [strip, dif_neg h]
    by_cases h1 : n % 10 = 0
    · rw [if_pos h1]
      obtain ⟨k, a, b, c⟩ := ih (n / 10) (by omega) (e + 1) (by omega)
      refine ⟨k + 1, ?_, by rw [b]; omega, c⟩
      rw [Nat.pow_succ, ← Nat.mul_assoc, ← a]; omega
    · rw [if_neg h1]; exact ⟨0, by simp, by simp, h1⟩
theorem strip_is_ok {p : Nat} {q : Nat} {t : Int} (h : q ≠ 0) (hq : q ≤ 10 ^ p) (hp : p ≠ 0) (ht : -400 ≤ t) (hd : dg q + t ≤ p + 400) : Ok p (strip q t).1 (strip q t).2 := by
  obtain ⟨k, a, b, c⟩ := strip_val q t h
  have hz : (strip q t).1 ≠ 0 := by intro h0; rw [h0] at c; exact c rfl
  have hdg : dg q = dg (strip q t).1 + k := by rw [← dg_mul hz k, ← a]
  refine ⟨fun h0 => absurd h0 hz, fun _ => c, ?_, by rw [b]; omega, by rw [b]; omega⟩
  by_cases hk : k = 0
  · by_cases h1 : q = 10 ^ p
    · have h2 : q % 10 = 0 := by
        have : p = p - 1 + 1 := by omega
        rw [h1, this, Nat.pow_succ]; omega
      subst hk; rw [Nat.pow_zero, Nat.mul_one] at a; rw [← a] at c; exact absurd h2 c
    · have := dg_le_iff.2 (show q < 10 ^ p by omega); omega
  · have : dg q ≤ p + 1 := by
      rw [dg_le_iff, Nat.pow_succ]; have := p10 p; omega
    omega
theorem x64 {n : Int} (h : -9223372036854775808 ≤ n) (h' : n ≤ 9223372036854775807) : wrap64 n = n := by
  unfold wrap64; omega
theorem dg_small {n : Nat} (h : n ≤ 340282366920938463463374607431768211456) : dg n ≤ 39 := by
  have : n < 10 ^ 39 := by omega
  by_cases hz : n = 0
  · subst hz; rw [dg_zero]; omega
  · have := Nat.lt_of_le_of_lt (dg_le hz) this
    have := (Nat.pow_lt_pow_iff_right (show 1 < 10 by decide)).1 this
    omega
def pd (s : Int) : Nat := if s = -1 then 7 else if s = 0 then 15 else if s = 1 then 18 else 0
def er (s : Int) : Int := if s = -1 then 0 else if s = 0 then 0 else if s = 1 then 0 else 1
theorem pd_of {s : Int} (h : er s = 0) : pd s = 7 ∨ pd s = 15 ∨ pd s = 18 := by
  unfold er at h; unfold pd
  split
  · omega
  · split
    · omega
    · split
      · omega
      · rename_i h1 h2 h3; rw [if_neg h1, if_neg h2, if_neg h3] at h; omega
theorem er_or (s : Int) : er s = 0 ∨ er s = 1 := by
  unfold er; split
  · omega
  · split
    · omega
    · split <;> omega
def flat (r : (Int × Int) × Int) : Int × Int × Int := (r.1.1, r.1.2, r.2)
theorem rnd_zero (p : Nat) (how : Int) (neg : Bool) (e : Int) : rnd p how neg 0 e false = ((0, 0), 0) := by
  unfold rnd
  have h : ∀ d, cutG 0 d false = (0, -1, false) := by
    intro d; have := cut_exact 0 d d (Nat.le_refl _); simpa using this
  rw [h, up_exact]; unfold fin; simp
def okB (p n : Nat) (e : Int) : Bool := if n = 0 then decide (e = 0) else decide (n % 10 ≠ 0 ∧ dg n ≤ p ∧ -400 ≤ e ∧ e + dg n ≤ p + 400)
theorem pdigits_is (s : Int) : reals_Digits.f s = some ((pd s : Int), er s) := by
  unfold reals_Digits.f pd er
  split
  · rfl
  · split
    · rfl
    · split <;> rfl
theorem hl_small {n : Nat} (h : n < 18446744073709551616) : hiw n = 0 ∧ low n = (n : Int) := by
  unfold hiw low; omega
theorem mag_is {m : Int} (h : -9223372036854775808 ≤ m) (h' : m ≤ 9223372036854775807) : reals_magnitude.f m = some (hiw m.natAbs, low m.natAbs) := by
  have hs := hl_small (n := m.natAbs) (by omega)
  rw [hs.1, hs.2]
  unfold reals_magnitude.f
  simp only [IntKind.wrap_u64]
  split
  · congr 2; omega
  · congr 2; omega
theorem two128 {n : Nat} (h : n ≤ 9223372036854775808) : n < 340282366920938463463374607431768211456 := by omega
theorem pdig_is {n : Nat} (h : n < 340282366920938463463374607431768211456) : reals_wide_digits.f (hiw n) (low n) = some ((dg n : Nat) : Int) := by
  unfold reals_wide_digits.f
  have hu := hl_u h
  rw [if_pos hu, wv_hl]
theorem tmod_ten (m : Int) : (Int.tmod m 10 = 0) ↔ m.natAbs % 10 = 0 := by
  rcases Int.lt_or_le m 0 with h | h
  · have : m = -((m.natAbs : Nat) : Int) := by omega
    generalize m.natAbs = n at *
    subst this
    rw [Int.neg_tmod, Int.tmod_eq_emod_of_nonneg (by omega)]; omega
  · have : m = ((m.natAbs : Nat) : Int) := by omega
    generalize m.natAbs = n at *
    subst this
    rw [Int.tmod_eq_emod_of_nonneg (by omega)]; omega
theorem valid_j0 (k : Nat) (h l p e : Int) (d : Nat) (m : Int) (hm : reals_magnitude.f m = some (h, l)) (hd : reals_wide_digits.f h l = some (d : Int)) : reals_Valid.j0 (k + 1) p false m e = some (decide ((wrap64 (d + (mx (wrap64 (e - 400)) 0))) ≤ p)) := by
  simp only [reals_Valid.j0]; rw [if_neg (by simp), hm]; simp only [Option.bind_some]; rw [hd]; simp only [Option.bind_some]
theorem pvalid_is (s m e : Int) (hm : -9223372036854775808 ≤ m) (hm2 : m ≤ 9223372036854775807) : Ev (fun k => reals_Valid.f k s m e) (decide (er s = 0) && okB (pd s) m.natAbs e) := by
  by_cases hs : er s = 0
  · have hp := pd_of hs
    rw [hs, show decide ((0 : Int) = 0) = true from rfl, Bool.true_and]
    unfold okB
    by_cases h0 : m = 0
    · subst h0
      refine Ev.congr (f := fun _ => some (decide (e = 0))) (fun k => ?_) (Ev.now _)
      unfold reals_Valid.f; rw [pdigits_is]; simp only [Option.bind_some]; rw [if_pos hs, if_pos trivial]; rfl
    · have hz : m.natAbs ≠ 0 := by omega
      have hds := dg_small (n := m.natAbs) (by omega)
      have hdg := pdig_is (two128 (n := m.natAbs) (by omega))
      have hmg := mag_is hm hm2
      rw [if_neg hz]
      have bad : Ev (fun k => reals_Valid.j0 k (pd s) true m e) false := by
        refine Ev.step (f := fun _ => some false) (fun k => ?_) (Ev.now _)
        simp only [reals_Valid.j0]; rw [if_pos trivial]
      by_cases h1 : m.natAbs % 10 = 0
      · rw [decide_eq_false (fun h => h.1 h1)]
        refine Ev.congr (fun k => ?_) bad
        unfold reals_Valid.f; rw [pdigits_is]; simp only [Option.bind_some]; rw [if_pos hs, if_neg h0, if_pos ((tmod_ten m).2 h1)]
      · have h1' : ¬ Int.tmod m 10 = 0 := fun h => h1 ((tmod_ten m).1 h)
        by_cases h2 : e < -400
        · rw [decide_eq_false (fun h => by have := h.2.2.1; omega)]
          refine Ev.congr (fun k => ?_) bad
          unfold reals_Valid.f; rw [pdigits_is]; simp only [Option.bind_some]; rw [if_pos hs, if_neg h0, if_neg h1', if_pos h2]
        · by_cases h3 : e > 400 + pd s
          · rw [decide_eq_false (fun h => by have := h.2.2.2; omega)]
            refine Ev.congr (fun k => ?_) bad
            unfold reals_Valid.f; rw [pdigits_is]; simp only [Option.bind_some]; rw [if_pos hs, if_neg h0, if_neg h1', if_neg h2, x64 (by omega) (by omega), decide_eq_true h3]
          · refine Ev.congr (f := fun k => reals_Valid.j0 k (pd s) false m e) (fun k => ?_) ?_
            · unfold reals_Valid.f; rw [pdigits_is]; simp only [Option.bind_some]; rw [if_pos hs, if_neg h0, if_neg h1', if_neg h2, x64 (by omega) (by omega), decide_eq_false h3]
            refine Ev.step (f := fun _ => some (decide (((dg m.natAbs : Nat) : Int) + mx (e - 400) 0 ≤ pd s))) (fun k => ?_) ?_
            · rw [valid_j0 k _ _ _ e _ m hmg hdg]
              rw [x64 (n := e - 400) (by omega) (by omega), x64 (by unfold mx; split <;> omega) (by unfold mx; split <;> omega)]
            have : decide (((dg m.natAbs : Nat) : Int) + mx (e - 400) 0 ≤ pd s) = decide (m.natAbs % 10 ≠ 0 ∧ dg m.natAbs ≤ pd s ∧ -400 ≤ e ∧ e + dg m.natAbs ≤ pd s + 400) := by
              rw [decide_eq_decide]; unfold mx; constructor
              · intro h; split at h <;> exact ⟨h1, by omega, by omega, by omega⟩
              · rintro ⟨a, b, c, d⟩; split <;> omega
            rw [this]; exact Ev.now _
  · refine Ev.congr (f := fun _ => some false) (fun k => ?_) ?_
    · unfold reals_Valid.f; rw [pdigits_is]; simp only [Option.bind_some]; rw [if_neg hs]
    rw [decide_eq_false hs, Bool.false_and]; exact Ev.now _
/-- what check returns -/
def checkS (s how : Int) (ok : Bool) : Int × Int := if er s = 0 ∧ 0 ≤ how ∧ how ≤ 3 then (if ok = true then ((pd s : Int), 0) else (0, 11)) else (0, 1)
theorem check_l0 (s : Int) (hs : er s = 0) (l : List S29) (hl : ∀ x ∈ l, -9223372036854775808 ≤ x.f0 ∧ x.f0 ≤ 9223372036854775807) (hn : l.length ≤ 1000) : ∀ (n i : Nat), i + n = l.length →
    Ev (fun k => reals_check.l0 k s (pd s) l (l.length : Int) (i : Int)) (if (l.drop i).all (fun x => okB (pd s) x.f0.natAbs x.f1) = true then ((pd s : Int), 0) else (0, 11)) := by
  intro n
  induction n with
  | zero =>
    intro i hi
    rw [List.drop_eq_nil_of_le (by omega)]
    refine Ev.step (f := fun _ => some ((pd s : Int), 0)) (fun k => ?_) (Ev.now _)
    simp only [reals_check.l0]; rw [if_neg (by omega)]
  | succ n ih =>
    intro i hi
    have hlt : i < l.length := by omega
    have hrd : rd_T29 l (i : Int) = l[i] := by unfold rd_T29; rw [Int.toNat_natCast, List.getD_eq_getElem?_getD, List.getElem?_eq_getElem hlt]; rfl
    have hb := hl l[i] (List.getElem_mem hlt)
    have hv := pvalid_is s l[i].f0 l[i].f1 hb.1 hb.2
    rw [hs, show decide ((0 : Int) = 0) = true from rfl, Bool.true_and] at hv
    rw [List.drop_eq_getElem_cons hlt, List.all_cons]
    refine Ev.step (f := fun k => (reals_Valid.f k s l[i].f0 l[i].f1).bind fun t112 => if t112 = true then reals_check.l0 k s (pd s) l (l.length : Int) ((i + 1 : Nat) : Int) else some (0, 11)) (fun k => ?_) ?_
    · simp only [reals_check.l0]; rw [if_pos (by omega), if_pos (by omega), if_pos (by omega), hrd, x64 (by omega) (by omega)]; rfl
    refine Ev.bind hv ?_
    cases okB (pd s) l[i].f0.natAbs l[i].f1
    · exact Ev.now _
    · rw [Bool.true_and]; exact ih (i + 1) (by omega)
theorem check_is (s how : Int) (l : List S29) (hl : ∀ x ∈ l, -9223372036854775808 ≤ x.f0 ∧ x.f0 ≤ 9223372036854775807) (hn : l.length ≤ 1000) : Ev (fun k => reals_check.f k s how l) (checkS s how (l.all fun x => okB (pd s) x.f0.natAbs x.f1)) := by
  unfold checkS
  have bad : ∀ p : Int, Ev (fun k => reals_check.j0 k s l p true) (0, 1) := by
    intro p
    refine Ev.step (f := fun _ => some (0, 1)) (fun k => ?_) (Ev.now _)
    simp only [reals_check.j0]; rw [if_pos trivial]
  rcases er_or s with hs | hs
  · by_cases h0 : how < 0
    · rw [if_neg (by omega)]
      refine Ev.congr (fun k => ?_) (bad (pd s))
      unfold reals_check.f; rw [pdigits_is]; simp only [Option.bind_some]; rw [if_pos hs, if_pos h0]
    · by_cases h3 : how > 3
      · rw [if_neg (by omega)]
        refine Ev.congr (fun k => ?_) (bad (pd s))
        unfold reals_check.f; rw [pdigits_is]; simp only [Option.bind_some]; rw [if_pos hs, if_neg h0, decide_eq_true h3]
      · rw [if_pos ⟨hs, by omega, by omega⟩]
        refine Ev.congr (f := fun k => reals_check.j0 k s l (pd s) false) (fun k => ?_) ?_
        · unfold reals_check.f; rw [pdigits_is]; simp only [Option.bind_some]; rw [if_pos hs, if_neg h0, decide_eq_false h3]
        refine Ev.step (fun k => ?_) (check_l0 s hs l hl hn l.length 0 (by omega))
        simp only [reals_check.j0]; rw [if_neg (by simp)]; rfl
  · rw [if_neg (by omega)]
    refine Ev.congr (fun k => ?_) (bad (pd s))
    unfold reals_check.f; rw [pdigits_is]; simp only [Option.bind_some]; rw [if_neg (by omega)]
theorem plus_is {n m : Nat} (h : n + m < 340282366920938463463374607431768211456) : reals_wide_plus.f (hiw n) (low n) (hiw m) (low m) = some (hiw (n + m), low (n + m)) := by
  unfold reals_wide_plus.f
  have h1 := hl_u (n := n) (by omega)
  have h2 := hl_u (n := m) (by omega)
  rw [if_pos ⟨h1.1, h1.2, h2.1, h2.2⟩]
  unfold hiw low u64s
  congr 2 <;> omega
theorem cutS_is {n : Nat} (h : n < 340282366920938463463374607431768211456) (d : Nat) (more : Bool) : cutS n d more = cutG n d more := by
  unfold cutS cutG
  by_cases h0 : d = 0
  · rw [if_pos h0, if_pos h0]
  · rw [if_neg h0, if_neg h0]
    by_cases h1 : 38 < d
    · rw [if_pos h1]
      have h39 : 10 ^ 39 ≤ 10 ^ d := Nat.pow_le_pow_right (by decide) h1
      have hlt : n < 10 ^ d := by omega
      rw [Nat.div_eq_of_lt hlt, Nat.mod_eq_of_lt hlt]
      have : sdS n (10 ^ d) more = -1 := by unfold sdS; rw [if_neg (by omega), if_pos (by omega)]
      rw [this]
    · rw [if_neg h1]; rfl
theorem pcut_is {n : Nat} (h : n < 340282366920938463463374607431768211456) {d : Nat} (hd : d ≤ 1000000) (more : Bool) : reals_wide_cut.f (hiw n) (low n) (d : Int) more = some (hiw (cutG n d more).1, low (cutG n d more).1, (cutG n d more).2) := by
  unfold reals_wide_cut.f
  rw [if_pos ⟨hl_u h, by omega, by omega⟩, wv_hl, Int.toNat_natCast, cutS_is h]
theorem and_one (z : Int) (h0 : 0 ≤ z) (h1 : z < 18446744073709551616) : Go.bits .and .u64 z 1 = z % 2 := by
  obtain ⟨n, rfl⟩ := Int.eq_ofNat_of_zero_le h0
  have h := bits_and_u64_nat n 1 (by omega) (by decide)
  rw [show (1 : Int) = ((1 : Nat) : Int) from rfl, h, Nat.and_one_is_mod]; rfl
theorem paway_is (how : Int) (h0 : 0 ≤ how) (h3 : how ≤ 3) (neg : Bool) (x y z : Int) (b : Bool) (odd : Bool) (half : Int) (left : Bool) : reals_exact_away.f neg x y z b how odd half left = some (awayS how neg odd half left) := by
  unfold reals_exact_away.f awayS
  have hh : how = 0 ∨ how = 1 ∨ how = 2 ∨ how = 3 := by omega
  rcases hh with rfl | rfl | rfl | rfl
  · rw [if_pos rfl, if_pos rfl]
    by_cases h : half > 0
    · rw [if_pos h, decide_eq_true h]; rfl
    · rw [if_neg h, decide_eq_false h]
      by_cases h' : half = 0
      · rw [if_pos h', decide_eq_true h']; rfl
      · rw [if_neg h', decide_eq_false h']; rfl
  · cases neg <;> cases left <;> rfl
  · cases neg <;> cases left <;> rfl
  · cases neg <;> cases left <;> rfl
theorem over_ev {n c : Nat} (hn : n < 340282366920938463463374607431768211456) (hc0 : 0 < c) (hc : c < 18446744073709551616) : Ev (fun k => reals_wide_over.f k (hiw n) (low n) c) (hiw (n / c), low (n / c), ((n % c : Nat) : Int)) :=
  ⟨14, fun k hk => by obtain ⟨j, rfl⟩ : ∃ j, k = j + 14 := ⟨k - 14, by omega⟩; exact over_is hn hc0 hc j⟩
theorem power_ev {d : Nat} (hd : d ≤ 38) : Ev (fun k => reals_power.f k d) (hiw (10 ^ d), low (10 ^ d)) := ⟨d + 1, fun k hk => power_is hd k (by omega)⟩
theorem scaled_ev {n d : Nat} (hd : d ≤ 1000) (h : n * 10 ^ d < 340282366920938463463374607431768211456) : Ev (fun k => reals_wide_scaled.f k (hiw n) (low n) d) (hiw (n * 10 ^ d), low (n * 10 ^ d)) := ⟨d + 1, fun k hk => scaled_is hd h k (by omega)⟩
theorem round_l0 (neg : Bool) (y z u : Int) (b : Bool) : ∀ (q : Nat) (t : Int), q ≠ 0 → q ≤ 1000000000000000000 → -100000 ≤ t → t + dg q ≤ 100000 → Ev (fun k => reals_exact_round.l0 k t neg y z u b (hiw q) (low q)) (flat (real neg (strip q t))) := by
  intro q
  induction q using Nat.strongRecOn with
  | ind q ih =>
    intro t hq hq2 ht ht2
    have hp := dg_pos hq
    have hs := hl_small (n := q) (by omega)
    by_cases h0 : q % 10 = 0
    · rw [show strip q t = strip (q / 10) (t + 1) by rw [strip, dif_neg hq, if_pos h0]]
      refine Ev.step (f := fun k => (reals_wide_over.f k (hiw q) (low q) 10).bind fun bt151 => (if bt151.2.2 = 0 then (reals_exact_round.l0 k (wrap64 (t + 1)) neg y z u b bt151.1 bt151.2.1) else (if neg = true then (some (wrap64 (-(wrap64 (low q))), t, 0)) else (some (wrap64 (low q), t, 0))))) (fun k => ?_) ?_
      · simp only [reals_exact_round.l0]
      refine Ev.bind (over_ev (c := 10) (by omega) (by decide) (by decide)) ?_
      rw [h0, x64 (by omega) (by omega)]
      exact ih (q / 10) (by omega) (t + 1) (by omega) (by omega) (by omega) (by omega)
    · rw [show strip q t = (q, t) by rw [strip, dif_neg hq, if_neg h0]]
      refine Ev.step (f := fun k => (reals_wide_over.f k (hiw q) (low q) 10).bind fun bt151 => (if bt151.2.2 = 0 then (reals_exact_round.l0 k (wrap64 (t + 1)) neg y z u b bt151.1 bt151.2.1) else (if neg = true then (some (wrap64 (-(wrap64 (low q))), t, 0)) else (some (wrap64 (low q), t, 0))))) (fun k => ?_) ?_
      · simp only [reals_exact_round.l0]
      refine Ev.bind (over_ev (c := 10) (by omega) (by decide) (by decide)) ?_
      have hq9 : q < 1000000000000000000 := by omega
      have hne : ¬ (((q % 10 : Nat) : Int) = 0) := by omega
      have hw1 : wrap64 (q : Int) = q := x64 (by clear hs; omega) (by clear hs; omega)
      have hw2 : wrap64 (-(q : Int)) = -q := x64 (by clear hs hw1; omega) (by clear hs hw1; omega)
      simp only [if_neg hne, hs.2, hw1, hw2]
      unfold flat real sgn
      cases neg
      · simp only [Bool.false_eq_true, if_false]; exact Ev.now _
      · simp only [if_true]; exact Ev.now _
theorem round_j3 (neg : Bool) (y z u : Int) (b : Bool) (q : Nat) (t : Int) (hq : q ≠ 0) (hq2 : q ≤ 1000000000000000000) (ht : -50000 ≤ t) (ht2 : t ≤ 50000) : Ev (fun k => reals_exact_round.j3 k t neg y z u b (hiw q) (low q)) (flat (real neg (strip q t))) := by
  have := dg_small (n := q) (by omega)
  refine Ev.step (fun k => ?_) (round_l0 neg y z u b q t hq hq2 (by omega) (by omega))
  simp only [reals_exact_round.j3]
theorem round_j2 (p : Nat) (hp : p ≤ 18) (hp0 : p ≠ 0) (x neg : Bool) (y z u : Int) (b : Bool) : Ev (fun k => reals_exact_round.j2 k (p : Int) x neg y z u b) (flat (if x = true then ((0, 0), 11) else real neg (10 ^ p - 1, 400))) := by
  cases x
  · have h18 : 10 ^ p ≤ 10 ^ 18 := Nat.pow_le_pow_right (by decide) hp
    have h10 : 10 ^ p = 10 * 10 ^ (p - 1) := by rw [Nat.mul_comm, ← Nat.pow_succ]; congr 1; omega
    have hz := p10 (p - 1)
    refine Ev.step (f := fun k => (reals_power.f k p).bind fun bt147 => (reals_wide_minus.f bt147.1 bt147.2 0 1).bind fun bt149 => reals_exact_round.j3 k 400 neg y z u b bt149.1 bt149.2) (fun k => ?_) ?_
    · simp only [reals_exact_round.j2]; rw [if_neg (by simp)]
    refine Ev.bind (power_ev (by omega)) ?_
    have hm := minus_is (n := 10 ^ p) (m := 1) (by omega) (by omega)
    rw [show hiw 1 = 0 from rfl, show low 1 = 1 from rfl] at hm
    dsimp only
    rw [hm]; simp only [Option.bind_some]
    have h := round_j3 neg y z u b (10 ^ p - 1) 400 (by omega) (by omega) (by omega) (by omega)
    rw [strip_ok (fun h => by omega) (fun _ => by omega)] at h
    exact h
  · refine Ev.step (f := fun _ => some (0, 0, 11)) (fun k => ?_) (Ev.now _)
    simp only [reals_exact_round.j2]; rw [if_pos trivial]
theorem round_j1 (p : Nat) (hp : p ≤ 18) (hp0 : p ≠ 0) (how : Int) (h0 : 0 ≤ how) (h3 : how ≤ 3) (neg : Bool) (y z u : Int) (b : Bool) (q : Nat) (hq : q ≤ 1000000000000000000) (t : Int) (ht : -50000 ≤ t) (ht2 : t ≤ 50000) :
    Ev (fun k => reals_exact_round.j1 k (p : Int) how t neg y z u b (hiw q) (low q)) (flat (if q = 0 then ((0, 0), 0) else if dg q + max (t - 400) 0 > p then (if how = 0 ∨ how = 1 ∧ neg = false ∨ how = 2 ∧ neg = true then ((0, 0), 11) else real neg (10 ^ p - 1, 400)) else real neg (strip q t))) := by
  have hs := hl_small (n := q) (by omega)
  have hd := dg_small (n := q) (by omega)
  by_cases hz : q = 0
  · subst hz
    refine Ev.step (f := fun _ => some (0, 0, 0)) (fun k => ?_) (Ev.now _)
    simp only [reals_exact_round.j1]; rw [if_pos (by decide)]
  · have hb : ¬ ((hiw q == 0 && (low q == 0)) = true) := by
      rw [hs.2, Bool.and_eq_true, beq_iff_eq, beq_iff_eq]; omega
    have hdg := pdig_is (n := q) (by omega)
    have hw : Aside0 (wrap64 (((dg q : Nat) : Int) + (mx (wrap64 (t - 400)) 0)) = (dg q : Int) + max (t - 400) 0) := ⟨by
      rw [x64 (n := t - 400) (by omega) (by omega)]
      have : mx (t - 400) 0 = max (t - 400) 0 := by unfold mx; split <;> omega
      rw [this]; exact x64 (by omega) (by omega)⟩
    rw [if_neg hz]
    by_cases ho : (dg q : Int) + max (t - 400) 0 > p
    · rw [if_pos ho]
      have key : ∀ x : Bool, (∀ k, reals_exact_round.j1 (k + 1) (p : Int) how t neg y z u b (hiw q) (low q) = reals_exact_round.j2 k (p : Int) x neg y z u b) → (x = true ↔ (how = 0 ∨ how = 1 ∧ neg = false ∨ how = 2 ∧ neg = true)) → Ev (fun k => reals_exact_round.j1 k (p : Int) how t neg y z u b (hiw q) (low q)) (flat (if how = 0 ∨ how = 1 ∧ neg = false ∨ how = 2 ∧ neg = true then ((0, 0), 11) else real neg (10 ^ p - 1, 400))) := by
        intro x hx hiff
        have h : Ev (fun k => reals_exact_round.j1 k (p : Int) how t neg y z u b (hiw q) (low q)) _ := Ev.step hx (round_j2 p hp hp0 x neg y z u b)
        by_cases hc : how = 0 ∨ how = 1 ∧ neg = false ∨ how = 2 ∧ neg = true
        · rw [if_pos (hiff.2 hc)] at h; rw [if_pos hc]; exact h
        · rw [if_neg (fun h => hc (hiff.1 h))] at h; rw [if_neg hc]; exact h
      have hh : how = 0 ∨ how = 1 ∨ how = 2 ∨ how = 3 := by omega
      rcases hh with rfl | rfl | rfl | rfl
      · refine key true (fun k => ?_) (by simp)
        simp only [reals_exact_round.j1]; rw [if_neg hb, hdg]; simp only [Option.bind_some]; rw [hw.out, if_pos ho, if_pos trivial]
      · refine key (!neg) (fun k => ?_) (by cases neg <;> simp)
        simp only [reals_exact_round.j1]; rw [if_neg hb, hdg]; simp only [Option.bind_some]; rw [hw.out, if_pos ho, if_neg (by decide), if_pos trivial]
        cases neg
        · rw [if_neg (by decide)]; rfl
        · rw [if_pos rfl, if_neg (by decide)]; rfl
      · refine key neg (fun k => ?_) (by cases neg <;> simp)
        simp only [reals_exact_round.j1]; rw [if_neg hb, hdg]; simp only [Option.bind_some]; rw [hw.out, if_pos ho, if_neg (by decide), if_neg (by decide), if_pos trivial]
      · refine key false (fun k => ?_) (by simp)
        simp only [reals_exact_round.j1]; rw [if_neg hb, hdg]; simp only [Option.bind_some]; rw [hw.out, if_pos ho, if_neg (by decide), if_neg (by decide), if_neg (by decide)]
    · rw [if_neg ho]
      refine Ev.step (fun k => ?_) (round_j3 neg y z u b q t hz hq ht ht2)
      simp only [reals_exact_round.j1]; rw [if_neg hb, hdg]; simp only [Option.bind_some]; rw [hw.out, if_neg ho]
theorem round_j0 (p : Nat) (hp : p ≤ 18) (hp0 : p ≠ 0) (how : Int) (h0 : 0 ≤ how) (h3 : how ≤ 3) (neg : Bool) (y z u : Int) (b : Bool) (q : Nat) (hq : q ≤ 10 ^ p) (d : Int) (ht : -40000 ≤ u + d) (ht2 : u + d ≤ 40000) :
    Ev (fun k => reals_exact_round.j0 k (p : Int) how d neg y z u b (hiw q) (low q)) (flat (fin p how neg q (u + d))) := by
  have h18 : 10 ^ p ≤ 10 ^ 18 := Nat.pow_le_pow_right (by decide) hp
  have hdg := pdig_is (n := q) (by omega)
  have hw : Aside0 (wrap64 (u + d) = u + d) := ⟨x64 (by omega) (by omega)⟩
  have hw2 : Aside0 (wrap64 (u + d + 1) = u + d + 1) := ⟨x64 (by omega) (by omega)⟩
  rw [← finP_is hp0 how neg hq]
  unfold finP
  by_cases h : dg q > p
  · simp only [if_pos h]
    refine Ev.step (f := fun k => (reals_wide_over.f k (hiw q) (low q) 10).bind fun bt143 => reals_exact_round.j1 k p how (u + d + 1) neg y z u b bt143.1 bt143.2.1) (fun k => ?_) ?_
    · simp only [reals_exact_round.j0]; rw [hdg]; simp only [Option.bind_some]; rw [if_pos (by omega), hw.out, hw2.out]
    refine Ev.bind (over_ev (c := 10) (by omega) (by decide) (by decide)) ?_
    exact round_j1 p hp hp0 how h0 h3 neg y z u b (q / 10) (by omega) (u + d + 1) (by omega) (by omega)
  · simp only [if_neg h]
    refine Ev.step (fun k => ?_) (round_j1 p hp hp0 how h0 h3 neg y z u b q (by omega) (u + d) (by omega) (by omega))
    simp only [reals_exact_round.j0]; rw [hdg]; simp only [Option.bind_some]; rw [if_neg (by omega), hw.out]
theorem round_step (k : Nat) (neg : Bool) (H L e : Int) (more : Bool) (p how t d CH CL half : Int) (ine odd a : Bool) (hdg : reals_wide_digits.f H L = some t) (hdrop : mx (mx (wrap64 (t - p)) (wrap64 ((-400) - e))) 0 = d) (hcut : reals_wide_cut.f H L d more = some (CH, CL, half, ine)) (hodd : ((Go.bits .and .u64 CL 1) == 1) = odd) (ha : reals_exact_away.f neg H L e more how odd half ine = some a) :
    reals_exact_round.f k neg H L e more p how = if a = true then ((reals_wide_plus.f CH CL 0 1).bind fun bt140 => (reals_exact_round.j0 k p how d neg H L e more bt140.1 bt140.2)) else (reals_exact_round.j0 k p how d neg H L e more CH CL) := by
  unfold reals_exact_round.f; rw [hdg]; simp only [Option.bind_some]; rw [hdrop, hcut]; simp only [Option.bind_some]; rw [hodd, ha]; simp only [Option.bind_some]
theorem round_is {s : Int} (hs : er s = 0) (how : Int) (h0 : 0 ≤ how) (h3 : how ≤ 3) (neg : Bool) {n : Nat} (hn : n < 340282366920938463463374607431768211456) (e : Int) (he : -15000 ≤ e) (he2 : e ≤ 15000) (more : Bool) :
    Ev (fun k => reals_exact_round.f k neg (hiw n) (low n) e more (pd s) how) (flat (rnd (pd s) how neg n e more)) := by
  have hp := pd_of hs
  have hd := dg_small (n := n) (by omega)
  have hdg := pdig_is hn
  have hdrop : Aside0 (mx (mx (wrap64 (((dg n : Nat) : Int) - (pd s : Int))) (wrap64 ((-400) - e))) 0 = ((dropS (pd s) n e : Nat) : Int)) := ⟨by
    rw [x64 (n := ((dg n : Nat) : Int) - (pd s : Int)) (by omega) (by omega), x64 (by omega) (by omega)]
    unfold mx dropS; split <;> split <;> omega⟩
  have hD : dropS (pd s) n e ≤ 20000 := by unfold dropS; omega
  have hcut := pcut_is hn (d := dropS (pd s) n e) (by omega) more
  have hup := up_lt (pd s) how neg n e more
  have h18 : 10 ^ pd s ≤ 10 ^ 18 := Nat.pow_le_pow_right (by decide) (by omega)
  have hg : -400 ≤ e + (dropS (pd s) n e : Int) := by unfold dropS; omega
  unfold rnd
  generalize hc : cutG n (dropS (pd s) n e) more = c at *
  have hq0 : c.1 ≤ n := by
    rw [← hc]; unfold cutG; split
    · exact Nat.le_refl _
    · exact Nat.div_le_self _ _
  have hu := hl_u (n := c.1) (by omega)
  have hodd : ((Go.bits .and .u64 (low c.1) 1) == 1) = decide (c.1 % 2 = 1) := by
    have := hu.2.out; unfold u64s at this
    rw [and_one _ this.1 this.2, Bool.eq_iff_iff, beq_iff_eq, decide_eq_true_eq]
    unfold low; omega
  have hj := round_j0 (pd s) (by omega) (by omega) how h0 h3 neg (hiw n) (low n) e more (up how neg c) hup (dropS (pd s) n e) (by omega) (by omega)
  refine Ev.congr (f := fun k => if awayS how neg (decide (c.1 % 2 = 1)) c.2.1 c.2.2 = true then ((reals_wide_plus.f (hiw c.1) (low c.1) 0 1).bind fun bt140 => (reals_exact_round.j0 k (pd s) how (dropS (pd s) n e : Nat) neg (hiw n) (low n) e more bt140.1 bt140.2)) else (reals_exact_round.j0 k (pd s) how (dropS (pd s) n e : Nat) neg (hiw n) (low n) e more (hiw c.1) (low c.1))) (fun k => ?_) ?_
  · exact round_step k neg _ _ e more _ how _ _ _ _ _ _ _ _ hdg hdrop.out hcut hodd (paway_is how h0 h3 neg _ _ e more _ _ _)
  by_cases ha : awayS how neg (decide (c.1 % 2 = 1)) c.2.1 c.2.2 = true
  · have huu : up how neg c = c.1 + 1 := by unfold up; rw [if_pos ha]
    have hpl := plus_is (n := c.1) (m := 1) (by omega)
    rw [show hiw 1 = 0 from rfl, show low 1 = 1 from rfl] at hpl
    refine Ev.congr (fun k => ?_) hj
    rw [if_pos ha, hpl, huu]; rfl
  · have huu : up how neg c = c.1 := by unfold up; rw [if_neg ha]; rfl
    refine Ev.congr (fun k => ?_) hj
    rw [if_neg ha, huu]
theorem pof_is {m e : Int} (h : -9223372036854775808 ≤ m) (h' : m ≤ 9223372036854775807) : reals_of.f m e = some (decide (m < 0), hiw m.natAbs, low m.natAbs, e, false) := by
  unfold reals_of.f; rw [mag_is h h']; rfl
def k8 : Nat := 800
theorem k8_is : k8 = 800 := rfl
/-- the value of a number above 0, in units of 10 to the power of -400 -/
def V (x : Nat × Int) : Nat := x.1 * 10 ^ (x.2 + 400).toNat
def finM (p : Nat) (s : Bool) (q : Nat) (t : Int) : Option (Nat × Int) := if q = 0 then some (0, 0) else if dg q + t > p + 400 then (if s = true then some (10 ^ p - 1, 400) else none) else some (strip q t)
def sat (how : Int) (neg : Bool) : Bool := !(decide (how = 0) || (decide (how = 1) && !neg) || (decide (how = 2) && neg))
def outM (neg : Bool) : Option (Nat × Int) → (Int × Int) × Int | none => ((0, 0), 11) | some x => real neg x
theorem fin_out (p : Nat) (how : Int) (neg : Bool) (q : Nat) (t : Int) : fin p how neg q t = outM neg (finM p (sat how neg) q t) := by
  unfold fin finM
  by_cases hz : q = 0
  · rw [if_pos hz, if_pos hz]; unfold outM real sgn; cases neg <;> rfl
  · rw [if_neg hz, if_neg hz]
    by_cases h : dg q + t > p + 400
    · rw [if_pos h, if_pos h]
      by_cases hs : how = 0 ∨ how = 1 ∧ neg = false ∨ how = 2 ∧ neg = true
      · have : sat how neg = false := by unfold sat; rcases hs with h | ⟨h, h'⟩ | ⟨h, h'⟩ <;> simp [*]
        rw [if_pos hs, this]; rfl
      · have : sat how neg = true := by
          unfold sat; cases neg <;> simp_all
        rw [if_neg hs, this]; rfl
    · rw [if_neg h, if_neg h]; rfl
theorem V_strip (q : Nat) (t : Int) (ht : -400 ≤ t) : V (strip q t) = q * 10 ^ (t + 400).toNat := by
  by_cases h : q = 0
  · subst h; rw [strip, dif_pos rfl, V, Nat.zero_mul, Nat.zero_mul]
  · obtain ⟨k, a, b, c⟩ := strip_val q t h
    unfold V
    rw [b, show (t + k + 400).toNat = k + (t + 400).toNat by omega, Nat.pow_add, ← Nat.mul_assoc, ← a]
theorem V_ok {p n : Nat} {e : Int} (h : Ok p n e) : V (n, e) ≤ (10 ^ p - 1) * 10 ^ k8 := by
  unfold V
  simp only
  by_cases he : e ≤ 400
  · have h1 : 10 ^ (e + 400).toNat ≤ 10 ^ k8 := Nat.pow_le_pow_right (by decide) (by have := k8_is; omega)
    have h2 := dg_le_iff.1 h.d
    exact Nat.mul_le_mul (by omega) h1
  · obtain ⟨k, hk⟩ : ∃ k : Nat, e = 400 + k := ⟨(e - 400).toNat, by omega⟩
    subst hk
    rw [show ((400 : Int) + k + 400).toNat = k + k8 by have := k8_is; omega, Nat.pow_add, ← Nat.mul_assoc]
    refine Nat.mul_le_mul_right _ ?_
    have h2 := h.h
    have h3 : n * 10 ^ k < 10 ^ p := by
      by_cases hz : n = 0
      · rw [hz, Nat.zero_mul]; exact p10 p
      · rw [← dg_le_iff, dg_mul hz]; omega
    omega
theorem finM_val {p : Nat} (hp : p ≠ 0) {s : Bool} {q : Nat} (hq : q ≤ 10 ^ p) {t : Int} (ht : -400 ≤ t) {x : Nat × Int} (h : finM p s q t = some x) : V x = min (q * 10 ^ (t + 400).toNat) ((10 ^ p - 1) * 10 ^ k8) ∧ Ok p x.1 x.2 := by
  unfold finM at h
  by_cases hz : q = 0
  · rw [if_pos hz] at h; cases h; subst hz
    refine ⟨by rw [V, Nat.zero_mul, Nat.zero_mul, Nat.zero_min], fun _ => rfl, fun h => absurd rfl h, by rw [dg_zero]; omega, by decide, by rw [dg_zero]; show (0 : Int) + 0 ≤ _; omega⟩
  · rw [if_neg hz] at h
    by_cases ho : dg q + t > p + 400
    · rw [if_pos ho] at h
      cases s
      · cases h
      · simp only [if_true, Option.some.injEq] at h; subst h
        have z := p10 p
        have z1 : 1 < 10 ^ p := Nat.one_lt_pow hp (by decide)
        have hd : dg (10 ^ p - 1) = p := dg_is (by omega) (.inr (by
          have h1 : 10 ^ p = 10 ^ (p - 1) * 10 := by rw [← Nat.pow_succ]; congr 1; omega
          have := p10 (p - 1)
          omega))
        refine ⟨?_, fun h => by simp only at h; omega, fun _ => ?_, by rw [hd]; omega, (by decide : (-400 : Int) ≤ 400), by rw [hd]; simp only; omega⟩
        · have h1 : V (10 ^ p - 1, 400) = (10 ^ p - 1) * 10 ^ k8 := by rw [V, k8_is]; congr 1
          rw [h1, Nat.min_eq_right]
          have h2 := dg_le hz
          have h3 : 10 ^ (p + k8) ≤ 10 ^ (dg q - 1 + (t + 400).toNat) := Nat.pow_le_pow_right (by decide) (by have := k8_is; omega)
          rw [Nat.pow_add, Nat.pow_add (m := dg q - 1)] at h3
          calc (10 ^ p - 1) * 10 ^ k8 ≤ 10 ^ p * 10 ^ k8 := Nat.mul_le_mul_right _ (by omega)
            _ ≤ _ := h3
            _ ≤ _ := Nat.mul_le_mul_right _ h2
        · have h1 : 10 ^ p = 10 ^ (p - 1) * 10 := by rw [← Nat.pow_succ]; congr 1; omega
          simp only; rw [h1]; have := p10 (p - 1); omega
    · rw [if_neg ho] at h; cases h
      have hk := strip_is_ok hz hq hp ht (by omega)
      refine ⟨?_, hk⟩
      rw [V_strip q t ht, Nat.min_eq_left]
      rw [← V_strip q t ht]; exact V_ok hk
/-- the magnitude of a rounded number -/
def rndM (p : Nat) (how : Int) (neg : Bool) (n : Nat) (e : Int) (more : Bool) : Option (Nat × Int) := finM p (sat how neg) (up how neg (cutG n (dropS p n e) more)) (e + dropS p n e)
theorem rnd_out (p : Nat) (how : Int) (neg : Bool) (n : Nat) (e : Int) (more : Bool) : rnd p how neg n e more = outM neg (rndM p how neg n e more) := by
  unfold rnd rndM; exact fin_out ..
theorem drop_ge (p n : Nat) (e : Int) : -400 ≤ e + dropS p n e := by unfold dropS; omega
theorem rndM_ok {p : Nat} (hp : p ≠ 0) {how : Int} {neg : Bool} {n : Nat} {e : Int} {more : Bool} {x : Nat × Int} (h : rndM p how neg n e more = some x) : Ok p x.1 x.2 :=
  (finM_val hp (up_lt p how neg n e more) (drop_ge p n e) h).2
theorem finM_sat {p q : Nat} {t : Int} {x : Nat × Int} (h : finM p false q t = some x) (s : Bool) : finM p s q t = some x := by
  cases s
  · exact h
  · unfold finM at *
    split
    · rename_i h0; rw [if_pos h0] at h; exact h
    · rename_i h0; rw [if_neg h0] at h
      split
      · rename_i h1; rw [if_pos h1] at h; cases h
      · rename_i h1; rw [if_neg h1] at h; exact h
/-- where the nearest is away from 0, something was dropped -/
theorem away_inexact {n d : Nat} {more : Bool} {neg odd : Bool} (h : awayS 0 neg odd (cutG n d more).2.1 (cutG n d more).2.2 = true) : (cutG n d more).2.2 = true := by
  unfold awayS at h; rw [if_pos rfl] at h
  unfold cutG at *
  by_cases hd : d = 0
  · rw [if_pos hd] at h; simp at h
  · rw [if_neg hd] at *
    simp only [Bool.or_eq_true, decide_eq_true_eq]
    by_cases hr : n % 10 ^ d = 0
    · left
      simp only [hr] at h
      have hp : 10 ^ d ≠ 0 := by have := p10 d; omega
      have hs : sdS 0 (10 ^ d) more = -1 := by
        unfold sdS; rw [if_neg (by omega), if_pos (by omega)]
      rw [hs] at h; simp at h
    · right; exact hr
theorem zero_is (p : Nat) (neg : Bool) (n : Nat) (e : Int) (more : Bool) : rndM p 3 neg n e more = rndM p (if neg = true then 1 else 2) neg n e more := by
  unfold rndM up awayS sat; cases neg <;> simp
theorem near_is {p : Nat} {neg : Bool} {n : Nat} {e : Int} {more : Bool} {x : Nat × Int} (h : rndM p 0 neg n e more = some x) : rndM p 1 neg n e more = some x ∨ rndM p 2 neg n e more = some x := by
  unfold rndM at *
  have hs : sat 0 neg = false := by unfold sat; simp
  rw [hs] at h
  generalize hc : cutG n (dropS p n e) more = c at *
  by_cases ha : awayS 0 neg (decide (c.1 % 2 = 1)) c.2.1 c.2.2 = true
  · have hi : c.2.2 = true := by rw [← hc] at ha ⊢; exact away_inexact ha
    have hu : up 0 neg c = c.1 + 1 := by unfold up; rw [if_pos ha]
    rw [hu] at h
    cases neg
    · left
      have : up 1 false c = c.1 + 1 := by unfold up awayS; simp [hi]
      rw [this]; exact finM_sat h _
    · right
      have : up 2 true c = c.1 + 1 := by unfold up awayS; simp [hi]
      rw [this]; exact finM_sat h _
  · have hu : up 0 neg c = c.1 := by unfold up; rw [if_neg ha]; rfl
    rw [hu] at h
    cases neg
    · right
      have : up 2 false c = c.1 := by unfold up awayS; simp
      rw [this]; exact finM_sat h _
    · left
      have : up 1 true c = c.1 := by unfold up awayS; simp
      rw [this]; exact finM_sat h _
theorem V_up_le {p : Nat} (hp : p ≠ 0) {h1 h2 : Int} {neg : Bool} {n : Nat} {e : Int} {more : Bool} {x y : Nat × Int} (hx : rndM p h1 neg n e more = some x) (hy : rndM p h2 neg n e more = some y)
    (hl : up h1 neg (cutG n (dropS p n e) more) ≤ up h2 neg (cutG n (dropS p n e) more)) : V x ≤ V y := by
  have a1 := (finM_val hp (up_lt p h1 neg n e more) (drop_ge p n e) hx).1
  have a2 := (finM_val hp (up_lt p h2 neg n e more) (drop_ge p n e) hy).1
  rw [a1, a2]
  have := Nat.mul_le_mul_right (10 ^ (e + dropS p n e + 400).toNat) hl
  omega
/-- Down is at most Up -/
theorem down_up {p : Nat} (hp : p ≠ 0) {neg : Bool} {n : Nat} {e : Int} {more : Bool} {x y : Nat × Int} (hx : rndM p 2 neg n e more = some x) (hy : rndM p 1 neg n e more = some y) : if neg = true then V y ≤ V x else V x ≤ V y := by
  cases neg
  · simp only [Bool.false_eq_true, if_false]
    refine V_up_le hp hx hy ?_
    unfold up awayS; simp
  · simp only [if_true]
    refine V_up_le hp hy hx ?_
    unfold up awayS; simp
/-- what is 0 downwards for a number below 0 is 0 in each direction -/
theorem V_inj {p : Nat} {x y : Nat × Int} (hx : Ok p x.1 x.2) (hy : Ok p y.1 y.2) (h : V x = V y) : x = y := by
  obtain ⟨n, e⟩ := x; obtain ⟨m, f⟩ := y
  simp only at hx hy
  unfold V at h; simp only at h
  have main : ∀ (n m : Nat) (e f : Int), Ok p n e → Ok p m f → n * 10 ^ (e + 400).toNat = m * 10 ^ (f + 400).toNat → e ≤ f → n = m ∧ e = f := by
    intro n m e f hx hy h hef
    have hl := hx.l
    obtain ⟨k, hk⟩ : ∃ k : Nat, f = e + k := ⟨(f - e).toNat, by omega⟩
    subst hk
    rw [show (e + k + 400).toNat = k + (e + 400).toNat by omega, Nat.pow_add, ← Nat.mul_assoc] at h
    have h := Nat.eq_of_mul_eq_mul_right (p10 _) h
    by_cases hz : m = 0
    · rw [hz, Nat.zero_mul] at h
      have a := hx.z h; have b := hy.z hz
      exact ⟨by omega, by omega⟩
    · have hn : n ≠ 0 := by rw [h]; exact Nat.mul_ne_zero hz (by have := p10 k; omega)
      have hk : k = 0 := by
        cases k with
        | zero => rfl
        | succ k =>
          exfalso; apply hx.t hn
          rw [h, Nat.pow_succ, ← Nat.mul_assoc]; exact Nat.mul_mod_left _ _
      subst hk
      rw [Nat.pow_zero, Nat.mul_one] at h
      exact ⟨h, by omega⟩
  rcases Int.le_total e f with hef | hef
  · obtain ⟨a, b⟩ := main n m e f hx hy h hef; rw [a, b]
  · obtain ⟨a, b⟩ := main m n f e hy hx h.symm hef; rw [a, b]
/-- the answer of an operation whose numbers are right if ok -/
def opS (s how : Int) (ok : Bool) (r : Int × Int × Int) : Int × Int × Int := if er s = 0 ∧ 0 ≤ how ∧ how ≤ 3 then (if ok = true then r else (0, 0, 11)) else (0, 0, 1)
theorem okB_bd {p n : Nat} {e : Int} (h : okB p n e = true) (hp : p ≤ 18) : n < 1000000000000000000 ∧ dg n ≤ p ∧ -400 ≤ e ∧ e ≤ 418 ∧ Ok p n e := by
  unfold okB at h
  by_cases hz : n = 0
  · rw [if_pos hz, decide_eq_true_eq] at h
    subst hz; subst h
    exact ⟨by decide, by rw [dg_zero]; omega, by decide, by decide, fun _ => rfl, fun h => absurd rfl h, by rw [dg_zero]; omega, by decide, by rw [dg_zero]; omega⟩
  · rw [if_neg hz, decide_eq_true_eq] at h
    have h18 : 10 ^ p ≤ 10 ^ 18 := Nat.pow_le_pow_right (by decide) hp
    have hn := dg_le_iff.1 h.2.1
    exact ⟨by omega, h.2.1, h.2.2.1, by omega, fun h0 => absurd h0 hz, fun _ => h.1, h.2.1, h.2.2.1, h.2.2.2⟩
def I64 (m : Int) : Prop := -9223372036854775808 ≤ m ∧ m ≤ 9223372036854775807
/-- the program's frame: check, then the operation -/
theorem prog_op {g : Nat → Int × Int → Option (Int × Int × Int)} (s how : Int) (l : List S29) (hl : ∀ x ∈ l, -9223372036854775808 ≤ x.f0 ∧ x.f0 ≤ 9223372036854775807) (hn : l.length ≤ 1000) (ok : Bool) (hok : (l.all fun x => okB (pd s) x.f0.natAbs x.f1) = ok) (r : Int × Int × Int)
    (h : er s = 0 → 0 ≤ how → how ≤ 3 → ok = true → Ev (fun k => g k ((pd s : Int), 0)) r) (h1 : ∀ k t, t ≠ 0 → g k (0, t) = some (0, 0, t)) :
    Ev (fun k => (reals_check.f k s how l).bind (g k)) (opS s how ok r) := by
  refine Ev.bind (check_is s how l hl hn) ?_
  rw [hok]
  unfold checkS opS
  by_cases hc : er s = 0 ∧ 0 ≤ how ∧ how ≤ 3
  · rw [if_pos hc, if_pos hc]
    by_cases ho : ok = true
    · rw [if_pos ho, if_pos ho]; exact h hc.1 hc.2.1 hc.2.2 ho
    · rw [if_neg ho, if_neg ho]; exact Ev.congr (fun k => h1 k 11 (by decide)) (Ev.now _)
  · rw [if_neg hc, if_neg hc]; exact Ev.congr (fun k => h1 k 1 (by decide)) (Ev.now _)
def neg2 (m n : Int) : Bool := decide (m < 0) != decide (n < 0)
def mulS (s how m e n f : Int) : Int × Int × Int := opS s how (okB (pd s) m.natAbs e && okB (pd s) n.natAbs f) (flat (rnd (pd s) how (neg2 m n) (m.natAbs * n.natAbs) (e + f) false))
theorem mul_lt {a b : Nat} (ha : a < 1000000000000000000) (hb : b < 1000000000000000000) : a * b < 1000000000000000000000000000000000000 := by
  have h1 : a * b ≤ 999999999999999999 * 999999999999999999 := Nat.mul_le_mul (by omega) (by omega)
  have h2 : 999999999999999999 * 999999999999999999 < 1000000000000000000000000000000000000 := by decide
  exact Nat.lt_of_le_of_lt h1 h2
theorem mul_in (k : Nat) (m n e f p how E : Int) (H L H2 L2 P Q : Int) (hm : reals_magnitude.f m = some (H, L)) (hn : reals_magnitude.f n = some (H2, L2)) (ht : reals_wide_times.f H L L2 = some (P, Q)) (hE : wrap64 (e + f) = E) :
    (if (((p, 0) : Int × Int)).2 = 0 then ((reals_magnitude.f m).bind fun bt429 => ((reals_magnitude.f n).bind fun bt431 => ((reals_wide_times.f bt429.1 bt429.2 bt431.2).bind fun bt433 => ((reals_exact_round.f k ((decide (m < 0)) != (decide (n < 0))) bt433.1 bt433.2 (wrap64 (e + f)) false (((p, 0) : Int × Int)).1 how).bind fun bt435 => (some (bt435.1, bt435.2.1, bt435.2.2)))))) else (some (0, 0, (((p, 0) : Int × Int)).2))) = (reals_exact_round.f k (neg2 m n) P Q E false p how).bind fun bt435 => (some (bt435.1, bt435.2.1, bt435.2.2)) := by
  rw [if_pos rfl, hm]; simp only [Option.bind_some]; rw [hn]; simp only [Option.bind_some]; rw [ht]; simp only [Option.bind_some]; rw [hE]; rfl
theorem two_ok (s m e n f : Int) : ([(⟨m, e⟩ : S29), (⟨n, f⟩ : S29)].all fun x => okB (pd s) x.f0.natAbs x.f1) = (okB (pd s) m.natAbs e && okB (pd s) n.natAbs f) := by simp
theorem two_bd {m e n f : Int} (hm : I64 m) (hn : I64 n) : ∀ x ∈ [(⟨m, e⟩ : S29), (⟨n, f⟩ : S29)], -9223372036854775808 ≤ x.f0 ∧ x.f0 ≤ 9223372036854775807 := by
  intro x hx
  simp only [List.mem_cons, List.not_mem_nil, or_false] at hx
  rcases hx with rfl | rfl
  · exact hm
  · exact hn
theorem pmul_is (s how m e n f : Int) (hm : I64 m) (hn : I64 n) : Ev (fun k => reals_Mul.f k s how m e n f) (mulS s how m e n f) := by
  unfold reals_Mul.f mulS
  refine prog_op s how _ (two_bd hm hn) (by simp) _ (two_ok s m e n f) _ ?_ ?_
  · intro hs h0 h3 ho
    rw [Bool.and_eq_true] at ho
    have hp := pd_of hs
    have b1 := okB_bd ho.1 (by omega); have b2 := okB_bd ho.2 (by omega)
    have hlt := mul_lt b1.1 b2.1
    have hs2 := hl_small (n := n.natAbs) (by omega)
    have ht := times_is (n := m.natAbs) (c := n.natAbs) (by omega) (by omega) (by omega)
    rw [← hs2.2] at ht
    have hr := round_is hs how h0 h3 (neg2 m n) (n := m.natAbs * n.natAbs) (by omega) (e + f) (by omega) (by omega) false
    refine Ev.congr (fun k => ?_) (Ev.bind hr (Ev.now (flat _)))
    exact mul_in k m n e f (pd s) how _ _ _ _ _ _ _ (mag_is hm.1 hm.2) (mag_is hn.1 hn.2) ht (x64 (by omega) (by omega))
  · intro k t ht; rw [if_neg ht]
def divS (s how m e n f : Int) : Int × Int × Int := opS s how (okB (pd s) m.natAbs e && okB (pd s) n.natAbs f) (if n = 0 then (0, 0, 11) else flat (rnd (pd s) how (neg2 m n) (m.natAbs * 10 ^ 40 / n.natAbs) (e - f - 40) (decide (m.natAbs * 10 ^ 40 % n.natAbs ≠ 0))))
/-- fewer zeros behind the dividend, and what is left is told -/
theorem div_sticky (A n k : Nat) (hn : n ≠ 0) : A * 10 ^ k / n = A / n * 10 ^ k + A % n * 10 ^ k / n ∧ A % n * 10 ^ k / n < 10 ^ k ∧ (decide (A * 10 ^ k % n ≠ 0) || decide (A % n * 10 ^ k / n ≠ 0)) = decide (A % n ≠ 0) := by
  have hpos := Nat.pos_of_ne_zero hn
  have hk := p10 k
  have e : A * 10 ^ k = n * (A / n * 10 ^ k) + A % n * 10 ^ k := by
    rw [← Nat.mul_assoc, ← Nat.add_mul, Nat.div_add_mod]
  have hr := Nat.mod_lt A hpos
  refine ⟨by rw [e, Nat.mul_add_div hpos], ?_, ?_⟩
  · rw [Nat.div_lt_iff_lt_mul hpos, Nat.mul_comm (10 ^ k)]; exact Nat.mul_lt_mul_of_pos_right hr hk
  · have hmod : A * 10 ^ k % n = A % n * 10 ^ k % n := by rw [e, Nat.mul_add_mod]
    rw [hmod]
    by_cases h0 : A % n = 0
    · rw [h0]; simp
    · rw [decide_eq_true h0]
      have hp : 0 < A % n * 10 ^ k := Nat.mul_pos (Nat.pos_of_ne_zero h0) hk
      by_cases h1 : A % n * 10 ^ k % n = 0
      · have h2 : A % n * 10 ^ k / n ≠ 0 := by
          intro h2
          have := Nat.div_add_mod (A % n * 10 ^ k) n
          rw [h1, h2] at this; omega
        rw [decide_eq_true h2, Bool.or_true]
      · rw [decide_eq_true h1, Bool.true_or]
theorem div_same (p : Nat) (hp : p ≤ 18) (how : Int) (neg : Bool) (c n : Nat) (hc : c < 1000000000000000000) (hn : n ≠ 0) (hn2 : n < 1000000000000000000) (e : Int) :
    rnd p how neg (c * 10 ^ 40 / n) (e - 40) (decide (c * 10 ^ 40 % n ≠ 0)) = rnd p how neg (c * 10 ^ (38 - dg c) / n) (e - (38 - dg c : Nat)) (decide (c * 10 ^ (38 - dg c) % n ≠ 0)) := by
  by_cases hz : c = 0
  · subst hz
    rw [Nat.zero_mul, Nat.zero_mul, Nat.zero_div, Nat.zero_mod]
    rw [show decide ((0 : Nat) ≠ 0) = false from rfl, rnd_zero, rnd_zero]
  · have hd := dg_pos hz
    have hd18 : dg c ≤ 18 := dg_le_iff.2 (by omega)
    have hA : 10 ^ 37 ≤ c * 10 ^ (38 - dg c) := by
      have h1 := dg_le hz
      have h2 : 10 ^ (dg c - 1) * 10 ^ (38 - dg c) = 10 ^ 37 := by rw [← Nat.pow_add]; congr 1; omega
      rw [← h2]; exact Nat.mul_le_mul_right _ h1
    have e40 : c * 10 ^ 40 = c * 10 ^ (38 - dg c) * 10 ^ (2 + dg c) := by rw [Nat.mul_assoc, ← Nat.pow_add]; congr 2; omega
    rw [e40]
    generalize c * 10 ^ (38 - dg c) = A at *
    obtain ⟨h1, h2, h3⟩ := div_sticky A n (2 + dg c) hn
    have hq : 10 ^ 19 ≤ A / n := by
      rw [Nat.le_div_iff_mul_le (Nat.pos_of_ne_zero hn)]
      have : 10 ^ 19 * n ≤ 10 ^ 19 * 10 ^ 18 := Nat.mul_le_mul_left _ (by omega)
      omega
    have hdq : 20 ≤ dg (A / n) := by
      refine Nat.lt_of_not_le fun hle => ?_
      have := dg_le_iff.1 hle; omega
    have hst := rnd_sticky p how neg (A / n) (e - (38 - dg c : Nat)) (2 + dg c) (A % n * 10 ^ (2 + dg c) / n) (decide (A * 10 ^ (2 + dg c) % n ≠ 0)) h2 (by unfold dropS; omega) (by intro h0; rw [h0, dg_zero] at hdq; omega)
    rw [h3, ← h1] at hst
    rw [← hst]
    congr 1; omega
theorem div_in (k : Nat) (m n e f p how t H L H2 L2 C D Q0 Q1 R N E : Int) (more : Bool) (hm : reals_magnitude.f m = some (H, L)) (hd : reals_wide_digits.f H L = some t) (hN : wrap64 (38 - t) = N) (hsc : reals_wide_scaled.f k H L N = some (C, D)) (hn : reals_magnitude.f n = some (H2, L2)) (ho : reals_wide_over.f k C D L2 = some (Q0, Q1, R)) (hz : n ≠ 0) (hE : wrap64 (wrap64 (e - N) - f) = E) (hR : (R != 0) = more) :
    (if (((p, 0) : Int × Int)).2 = 0 then (if n = 0 then (some (0, 0, 11)) else ((reals_magnitude.f m).bind fun bt200 => ((reals_wide_digits.f bt200.1 bt200.2).bind fun t203 => ((reals_wide_scaled.f k bt200.1 bt200.2 (wrap64 (38 - t203))).bind fun bt204 => ((reals_magnitude.f n).bind fun bt206 => ((reals_wide_over.f k bt204.1 bt204.2 bt206.2).bind fun bt208 => ((reals_exact_round.f k ((decide (m < 0)) != (decide (n < 0))) bt208.1 bt208.2.1 (wrap64 ((wrap64 (e - (wrap64 (38 - t203)))) - f)) (bt208.2.2 != 0) (((p, 0) : Int × Int)).1 how).bind fun bt212 => (some (bt212.1, bt212.2.1, bt212.2.2))))))))) else (some (0, 0, (((p, 0) : Int × Int)).2))) = (reals_exact_round.f k (neg2 m n) Q0 Q1 E more p how).bind fun bt212 => (some (bt212.1, bt212.2.1, bt212.2.2)) := by
  rw [if_pos rfl, if_neg hz, hm]; simp only [Option.bind_some]; rw [hd]; simp only [Option.bind_some]; rw [hN, hsc]; simp only [Option.bind_some]; rw [hn]; simp only [Option.bind_some]; rw [ho]; simp only [Option.bind_some]; rw [hE, hR]; rfl
theorem pdiv_is (s how m e n f : Int) (hm : I64 m) (hn : I64 n) : Ev (fun k => reals_Div.f k s how m e n f) (divS s how m e n f) := by
  unfold reals_Div.f divS
  refine prog_op s how _ (two_bd hm hn) (by simp) _ (two_ok s m e n f) _ ?_ ?_
  · intro hs h0 h3 ho
    rw [Bool.and_eq_true] at ho
    have hp := pd_of hs
    have b1 := okB_bd ho.1 (by omega); have b2 := okB_bd ho.2 (by omega)
    by_cases hz : n = 0
    · rw [if_pos hz]
      refine Ev.congr (fun k => ?_) (Ev.now _)
      rw [if_pos rfl, if_pos hz]
    · rw [if_neg hz]
      have hnz : n.natAbs ≠ 0 := by omega
      have hd18 : dg m.natAbs ≤ 18 := by omega
      have hlt : m.natAbs * 10 ^ (38 - dg m.natAbs) < 10 ^ 38 := by
        have h1 := dg_lt m.natAbs
        have h2 : 10 ^ dg m.natAbs * 10 ^ (38 - dg m.natAbs) = 10 ^ 38 := by rw [← Nat.pow_add]; congr 1; omega
        rw [← h2]; exact Nat.mul_lt_mul_of_pos_right h1 (p10 _)
      have hs2 := hl_small (n := n.natAbs) (by omega)
      have hN : wrap64 (38 - ((dg m.natAbs : Nat) : Int)) = ((38 - dg m.natAbs : Nat) : Int) := by rw [x64 (by omega) (by omega)]; omega
      obtain ⟨K1, hsc⟩ := scaled_ev (n := m.natAbs) (d := 38 - dg m.natAbs) (by omega) (by omega)
      obtain ⟨K2, hov⟩ := over_ev (n := m.natAbs * 10 ^ (38 - dg m.natAbs)) (c := n.natAbs) (by omega) (by omega) (by omega)
      have hq : m.natAbs * 10 ^ (38 - dg m.natAbs) / n.natAbs < 340282366920938463463374607431768211456 := Nat.lt_of_le_of_lt (Nat.div_le_self _ _) (by omega)
      have hr := round_is hs how h0 h3 (neg2 m n) hq (e - f - (38 - dg m.natAbs : Nat)) (by omega) (by omega) (decide (m.natAbs * 10 ^ (38 - dg m.natAbs) % n.natAbs ≠ 0))
      have hsame := div_same (pd s) (by omega) how (neg2 m n) m.natAbs n.natAbs b1.1 hnz b2.1 (e - f)
      rw [hsame]
      obtain ⟨K3, hr3⟩ := Ev.bind hr (Ev.now (flat (rnd (pd s) how (neg2 m n) (m.natAbs * 10 ^ (38 - dg m.natAbs) / n.natAbs) (e - f - (38 - dg m.natAbs : Nat)) (decide (m.natAbs * 10 ^ (38 - dg m.natAbs) % n.natAbs ≠ 0)))))
      refine ⟨K1 + K2 + K3, fun k hk => ?_⟩
      have ho2 := hov k (by omega)
      rw [← hs2.2] at ho2
      have hmore : (((m.natAbs * 10 ^ (38 - dg m.natAbs) % n.natAbs : Nat) : Int) != 0) = decide (m.natAbs * 10 ^ (38 - dg m.natAbs) % n.natAbs ≠ 0) := by
        rw [Bool.eq_iff_iff, bne_iff_ne, decide_eq_true_eq]; omega
      have hw : wrap64 (wrap64 (e - ((38 - dg m.natAbs : Nat) : Int)) - f) = e - f - ((38 - dg m.natAbs : Nat) : Int) := by
        rw [x64 (n := e - ((38 - dg m.natAbs : Nat) : Int)) (by omega) (by omega), x64 (by omega) (by omega)]; omega
      exact (div_in k m n e f (pd s) how _ _ _ _ _ _ _ _ _ _ _ _ _ (mag_is hm.1 hm.2) (pdig_is (two128 (by omega))) hN (hsc k (by omega)) (mag_is hn.1 hn.2) ho2 hz hw hmore).trans (hr3 k (by omega))
  · intro k t ht; rw [if_neg ht]
/-- the sum of two numbers, in units of the less exponent -/
def addZ (m e n f : Int) : Int := m * 10 ^ (e - min e f).toNat + n * 10 ^ (f - min e f).toNat
def addS (s how m e n f : Int) : Int × Int × Int := opS s how (okB (pd s) m.natAbs e && okB (pd s) n.natAbs f) (flat (rnd (pd s) how (decide (addZ m e n f < 0)) (addZ m e n f).natAbs (min e f) false))
theorem addZ_comm (m e n f : Int) : addZ m e n f = addZ n f m e := by
  unfold addZ; rw [Int.min_comm f e, Int.add_comm]
/-- a number is its sign and its absolute value -/
theorem sgn_abs (m : Int) : sgn (decide (m < 0)) m.natAbs = m := by
  unfold sgn
  by_cases h : m < 0
  · rw [decide_eq_true h, if_pos rfl]; omega
  · rw [decide_eq_false h, if_neg (by decide)]; omega
theorem rnd_neg0 (p : Nat) (how : Int) (b c : Bool) (n : Nat) (e : Int) (h : n ≠ 0 → b = c) : rnd p how b n e false = rnd p how c n e false := by
  by_cases hz : n = 0
  · subst hz; rw [rnd_zero, rnd_zero]
  · rw [h hz]
/-- one of the two is 0 -/
theorem add_zero_is (p : Nat) (how : Int) (n f : Int) (h : Ok p n.natAbs f) : flat (rnd p how (decide (addZ 0 0 n f < 0)) (addZ 0 0 n f).natAbs (min 0 f) false) = (n, f, 0) := by
  have hk : (0 : Int) < 10 ^ (f - min 0 f).toNat := Int.pow_pos (by decide)
  have hZ : addZ 0 0 n f = n * 10 ^ (f - min 0 f).toNat := by unfold addZ; rw [Int.zero_mul, Int.zero_add]
  have hs : decide (addZ 0 0 n f < 0) = decide (n < 0) := by
    rw [hZ, decide_eq_decide]
    constructor
    · intro h; exact Int.lt_of_not_ge fun h0 => by have := Int.mul_nonneg h0 (Int.le_of_lt hk); omega
    · intro h; exact Int.mul_neg_of_neg_of_pos h hk
  have ha : (addZ 0 0 n f).natAbs = n.natAbs * 10 ^ (f - min 0 f).toNat := by
    rw [hZ, Int.natAbs_mul, Int.natAbs_pow]; rfl
  rw [hs, ha]
  have h1 := rnd_scale p how (decide (n < 0)) n.natAbs f (f - min 0 f).toNat
  rw [show f - ((f - min 0 f).toNat : Int) = min 0 f by omega] at h1
  rw [h1, rnd_ok how _ h]
  unfold flat real
  simp only [sgn_abs]
/-- the same signs -/
theorem add_same (neg : Bool) (a b : Nat) (m n : Int) (hm : sgn neg a = m) (hn : sgn neg b = n) (K : Nat) : (m * 10 ^ K + n).natAbs = a * 10 ^ K + b ∧ (a * 10 ^ K + b ≠ 0 → decide (m * 10 ^ K + n < 0) = neg) := by
  have e : ((a * 10 ^ K : Nat) : Int) = (a : Int) * 10 ^ K := by simp
  cases neg
  · have h1 : m = a := by rw [← hm]; rfl
    have h2 : n = b := by rw [← hn]; rfl
    subst h1; subst h2
    rw [← e]; exact ⟨by omega, fun _ => decide_eq_false (by omega)⟩
  · have h1 : m = -(a : Int) := by rw [← hm]; rfl
    have h2 : n = -(b : Int) := by rw [← hn]; rfl
    subst h1; subst h2
    rw [Int.neg_mul, ← e]; exact ⟨by omega, fun h => decide_eq_true (by omega)⟩
theorem add_diff (neg : Bool) (a b : Nat) (m n : Int) (hm : sgn neg a = m) (hn : sgn (!neg) b = n) (K : Nat) :
    (b ≤ a * 10 ^ K → (m * 10 ^ K + n).natAbs = a * 10 ^ K - b ∧ (a * 10 ^ K - b ≠ 0 → decide (m * 10 ^ K + n < 0) = neg)) ∧ (a * 10 ^ K < b → (m * 10 ^ K + n).natAbs = b - a * 10 ^ K ∧ decide (m * 10 ^ K + n < 0) = !neg) := by
  have e : ((a * 10 ^ K : Nat) : Int) = (a : Int) * 10 ^ K := by simp
  cases neg
  · have h1 : m = a := by rw [← hm]; rfl
    have h2 : n = -(b : Int) := by rw [← hn]; rfl
    subst h1; subst h2
    rw [← e]
    exact ⟨fun h => ⟨by omega, fun _ => decide_eq_false (by omega)⟩, fun h => ⟨by omega, decide_eq_true (by omega)⟩⟩
  · have h1 : m = -(a : Int) := by rw [← hm]; rfl
    have h2 : n = (b : Int) := by rw [← hn]; rfl
    subst h1; subst h2
    rw [Int.neg_mul, ← e]
    exact ⟨fun h => ⟨by omega, fun h => decide_eq_true (by omega)⟩, fun h => ⟨by omega, decide_eq_false (by omega)⟩⟩
/-- what sum returns, as a number to be rounded: with the sign neg, the numbers and the part below -/
structure SumIs (p : Nat) (how : Int) (m e n f : Int) (x : Bool × Nat × Int × Bool) : Prop where
  r : rnd p how x.1 x.2.1 x.2.2.1 x.2.2.2 = rnd p how (decide (addZ m e n f < 0)) (addZ m e n f).natAbs (min e f) false
  b : x.2.1 < 340282366920938463463374607431768211456
  l : -1000 ≤ x.2.2.1
  h : x.2.2.1 ≤ 1000
theorem sumEnd_same (xn : Bool) (C0 C1 E M0 M1 R0 R1 : Int) (mo : Bool) (h : reals_wide_plus.f C0 C1 M0 M1 = some (R0, R1)) : sumEnd xn xn C0 C1 E M0 M1 mo = some (xn, R0, R1, E, mo) := by
  unfold sumEnd; rw [if_pos rfl, h]; rfl
theorem sumEnd_less (xn yn : Bool) (hn : xn ≠ yn) (C0 C1 E M0 M1 R0 R1 c : Int) (mo : Bool) (hc : reals_wide_compare.f C0 C1 M0 M1 = some c) (hq : ¬ (0 ≤ c ∧ ¬ (mo = true ∧ C0 = M0 ∧ C1 = M1))) (h : reals_wide_minus.f M0 M1 C0 C1 = some (R0, R1)) : sumEnd xn yn C0 C1 E M0 M1 mo = some (yn, R0, R1, E, mo) := by
  unfold sumEnd; rw [if_neg hn, hc]; simp only [Option.bind_some]; rw [if_neg hq, h]; rfl
theorem sumEnd_ge (xn yn : Bool) (hn : xn ≠ yn) (C0 C1 E M0 M1 R0 R1 c : Int) (hc : reals_wide_compare.f C0 C1 M0 M1 = some c) (hq : 0 ≤ c) (h : reals_wide_minus.f C0 C1 M0 M1 = some (R0, R1)) : sumEnd xn yn C0 C1 E M0 M1 false = some (xn, R0, R1, E, false) := by
  unfold sumEnd; rw [if_neg hn, hc]; simp only [Option.bind_some]; rw [if_pos ⟨hq, fun h => by cases h.1⟩, h]; rfl
theorem sumEnd_more (xn yn : Bool) (hn : xn ≠ yn) (C0 C1 E M0 M1 S0 S1 R0 R1 c : Int) (hc : reals_wide_compare.f C0 C1 M0 M1 = some c) (hq : 0 ≤ c) (hne : ¬ (C0 = M0 ∧ C1 = M1)) (h : reals_wide_minus.f C0 C1 M0 M1 = some (S0, S1)) (h2 : reals_wide_minus.f S0 S1 0 1 = some (R0, R1)) : sumEnd xn yn C0 C1 E M0 M1 true = some (xn, R0, R1, E, true) := by
  unfold sumEnd; rw [if_neg hn, hc]; simp only [Option.bind_some]; rw [if_pos ⟨hq, fun h => hne h.2⟩, h]; simp only [Option.bind_some]; rw [if_pos trivial, h2]; rfl
theorem sumBase_near (XH XL xe YH YL ye C0 C1 : Int) (h : xe - ye ≤ 19) (hs : reals_wide_scaled.f 40 XH XL (xe - ye) = some (C0, C1)) : sumBase XH XL xe YH YL ye = some (C0, C1, ye, YH, YL, false) := by
  unfold sumBase; rw [if_pos h, hs]; rfl
theorem sumBase_far (XH XL xe YH YL ye C0 C1 M0 M1 hf : Int) (mo : Bool) (h : ¬ xe - ye ≤ 19) (hs : reals_wide_scaled.f 40 XH XL 19 = some (C0, C1)) (hk : reals_wide_cut.f YH YL (xe - ye - 19) false = some (M0, M1, hf, mo)) : sumBase XH XL xe YH YL ye = some (C0, C1, xe - 19, M0, M1, mo) := by
  unfold sumBase; rw [if_neg h, hs]; simp only [Option.bind_some]; rw [hk]; rfl
theorem sum_of (xn yn : Bool) (XH XL xe YH YL ye C0 C1 E M0 M1 : Int) (mo : Bool) (r : Bool × Int × Int × Int × Bool) (h0 : 0 ≤ xe - ye) (h1 : xe - ye ≤ 100000) (h2 : -100000 ≤ xe) (h3 : xe ≤ 100000) (hb : sumBase XH XL xe YH YL ye = some (C0, C1, E, M0, M1, mo)) (he : sumEnd xn yn C0 C1 E M0 M1 mo = some r) : reals_sum.f xn XH XL xe false yn YH YL ye false = some r := by
  unfold reals_sum.f; rw [if_pos ⟨⟨rfl, rfl⟩, ⟨h0, h1⟩, h2, h3⟩, hb]; exact he
theorem hl_inj {C M : Nat} (h1 : hiw C = hiw M) (h2 : low C = low M) : C = M := by unfold hiw at h1; unfold low at h2; omega
theorem neq_not {a b : Bool} (h : a ≠ b) : b = !a := by cases a <;> cases b <;> simp_all
theorem sum_is {p : Nat} (hp : p ≤ 18) (how m e n f : Int) (hm : m.natAbs < 1000000000000000000) (hn : n.natAbs < 1000000000000000000) (hm0 : m ≠ 0) (he : e ≤ 418) (hf : -400 ≤ f) (hef : f ≤ e) :
    ∃ x : Bool × Nat × Int × Bool, reals_sum.f (decide (m < 0)) (hiw m.natAbs) (low m.natAbs) e false (decide (n < 0)) (hiw n.natAbs) (low n.natAbs) f false = some (x.1, hiw x.2.1, low x.2.1, x.2.2.1, x.2.2.2) ∧ SumIs p how m e n f x := by
  have hmin : min e f = f := by omega
  obtain ⟨d, hd⟩ : ∃ d : Nat, e = f + d := ⟨(e - f).toNat, by omega⟩
  have hZ : addZ m e n f = m * 10 ^ d + n := by
    unfold addZ; rw [hmin, show (e - f).toNat = d by omega, show (f - f).toNat = 0 by omega, Int.pow_zero, Int.mul_one]
  have sm := sgn_abs m
  have sn := sgn_abs n
  have a0 : m.natAbs ≠ 0 := by omega
  generalize ha : m.natAbs = a at *
  generalize hb : n.natAbs = b at *
  by_cases h19 : d ≤ 19
  · have h10 : a * 10 ^ d < 10 ^ 37 := by
      have h1 : 10 ^ d ≤ 10 ^ 19 := Nat.pow_le_pow_right (by decide) h19
      have h2 : a * 10 ^ d ≤ a * 10 ^ 19 := Nat.mul_le_mul_left _ h1
      omega
    have hbase : sumBase (hiw a) (low a) e (hiw b) (low b) f = some (hiw (a * 10 ^ d), low (a * 10 ^ d), f, hiw b, low b, false) := sumBase_near _ _ _ _ _ _ _ _ (by omega) (by rw [show e - f = (d : Int) by omega]; exact scaled_is (by omega) (by omega) 40 (by omega))
    have fin : ∀ (x : Bool × Nat × Int × Bool), sumEnd (decide (m < 0)) (decide (n < 0)) (hiw (a * 10 ^ d)) (low (a * 10 ^ d)) f (hiw b) (low b) false = some (x.1, hiw x.2.1, low x.2.1, x.2.2.1, x.2.2.2) → x.2.2 = (f, false) → x.2.1 = (m * 10 ^ d + n).natAbs → (x.2.1 ≠ 0 → x.1 = decide (m * 10 ^ d + n < 0)) → x.2.1 < 10 ^ 38 → ∃ x : Bool × Nat × Int × Bool, reals_sum.f (decide (m < 0)) (hiw a) (low a) e false (decide (n < 0)) (hiw b) (low b) f false = some (x.1, hiw x.2.1, low x.2.1, x.2.2.1, x.2.2.2) ∧ SumIs p how m e n f x := by
      rintro ⟨x1, x2, x3, x4⟩ hs hx hx2 hx1 hlt
      simp only [Prod.mk.injEq] at hx
      obtain ⟨rfl, rfl⟩ := hx
      refine ⟨(x1, x2, x3, false), sum_of _ _ _ _ _ _ _ _ _ _ _ _ _ _ _ (by omega) (by omega) (by omega) (by omega) hbase hs, ?_, ?_, ?_, ?_⟩
      · simp only at hx1 hx2 ⊢
        rw [hZ, hmin, ← hx2]; exact rnd_neg0 _ _ _ _ _ _ hx1
      · simp only at hlt ⊢; omega
      · simp only; omega
      · simp only; omega
    by_cases hs : decide (m < 0) = decide (n < 0)
    · have hq := add_same (decide (m < 0)) a b m n sm (hs ▸ sn) d
      rw [← hs] at fin ⊢
      exact fin (decide (m < 0), a * 10 ^ d + b, f, false) (sumEnd_same _ _ _ _ _ _ _ _ _ (plus_is (by omega))) rfl hq.1.symm (fun h => (hq.2 h).symm) (by simp only; omega)
    · have hnot := neq_not hs
      have hq := add_diff (decide (m < 0)) a b m n sm (hnot ▸ sn) d
      have hc := cmp_is (a * 10 ^ d) b
      by_cases hle : b ≤ a * 10 ^ d
      · have hq1 := hq.1 hle
        exact fin (decide (m < 0), a * 10 ^ d - b, f, false) (sumEnd_ge _ _ hs _ _ _ _ _ _ _ _ hc (by split <;> (try split) <;> omega) (minus_is (by omega) hle)) rfl hq1.1.symm (fun h => (hq1.2 h).symm) (by simp only; omega)
      · have hq1 := hq.2 (by omega)
        refine fin (decide (n < 0), b - a * 10 ^ d, f, false) (sumEnd_less _ _ hs _ _ _ _ _ _ _ _ _ hc ?_ (minus_is (by omega) (by omega))) rfl hq1.1.symm (fun _ => by rw [hq1.2]; exact hnot) (by simp only; omega)
        rw [if_neg (by omega), if_pos (by omega)]; rintro ⟨h, _⟩; omega
  · obtain ⟨k, hk⟩ : ∃ k : Nat, d = k + 19 := ⟨d - 19, by omega⟩
    have hk0 : k ≠ 0 := by omega
    have h10 : a * 10 ^ 19 < 10 ^ 37 := by omega
    have hCge : 10 ^ 19 ≤ a * 10 ^ 19 := by omega
    have hkp := p10 k
    have h10k : 10 ≤ 10 ^ k := by
      have : 10 ^ 1 ≤ 10 ^ k := Nat.pow_le_pow_right (by decide) (by omega)
      omega
    have hcut := pcut_is (n := b) (by omega) (d := k) (by omega) false
    have hcg : cutG b k false = (b / 10 ^ k, (cutG b k false).2.1, decide (b % 10 ^ k ≠ 0)) := by unfold cutG; rw [if_neg hk0, Bool.false_or]
    have hM : b / 10 ^ k ≤ b / 10 := Nat.div_le_div_left h10k (by decide)
    have hdm := Nat.div_add_mod b (10 ^ k)
    have hsl := Nat.mod_lt b hkp
    rw [hcg] at hcut
    have hbase : sumBase (hiw a) (low a) e (hiw b) (low b) f = some (hiw (a * 10 ^ 19), low (a * 10 ^ 19), e - 19, hiw (b / 10 ^ k), low (b / 10 ^ k), decide (b % 10 ^ k ≠ 0)) := sumBase_far _ _ _ _ _ _ _ _ _ _ _ _ (by omega) (scaled_is (d := 19) (by omega) (by omega) 40 (by omega)) (by rw [show e - f - 19 = (k : Int) by omega]; exact hcut)
    have hpow : a * 10 ^ d = a * 10 ^ 19 * 10 ^ k := by rw [hk, Nat.pow_add, Nat.mul_assoc, Nat.mul_comm (10 ^ k)]
    generalize hC : a * 10 ^ 19 = C at *
    generalize hMM : b / 10 ^ k = M at *
    generalize hss : b % 10 ^ k = t at *
    have fin : ∀ (x : Bool × Nat × Int × Bool) (s : Nat), sumEnd (decide (m < 0)) (decide (n < 0)) (hiw C) (low C) (e - 19) (hiw M) (low M) (decide (t ≠ 0)) = some (x.1, hiw x.2.1, low x.2.1, x.2.2.1, x.2.2.2) → x.2.2 = (e - 19, decide (s ≠ 0)) → s < 10 ^ k → x.2.1 * 10 ^ k + s = (m * 10 ^ d + n).natAbs → x.1 = decide (m * 10 ^ d + n < 0) → x.2.1 < 10 ^ 38 → 1000000000000000000 ≤ x.2.1 → ∃ x : Bool × Nat × Int × Bool, reals_sum.f (decide (m < 0)) (hiw a) (low a) e false (decide (n < 0)) (hiw b) (low b) f false = some (x.1, hiw x.2.1, low x.2.1, x.2.2.1, x.2.2.2) ∧ SumIs p how m e n f x := by
      rintro ⟨x1, x2, x3, x4⟩ s hs hx hsk hx2 hx1 hlt hbig
      simp only [Prod.mk.injEq] at hx
      obtain ⟨rfl, rfl⟩ := hx
      simp only at hs hx2 hx1 hlt hbig
      refine ⟨(x1, x2, e - 19, decide (s ≠ 0)), sum_of _ _ _ _ _ _ _ _ _ _ _ _ _ _ _ (by omega) (by omega) (by omega) (by omega) hbase hs, ?_, ?_, ?_, ?_⟩
      · simp only
        have hdg : 19 ≤ dg x2 := by
          refine Nat.lt_of_not_le fun hle => ?_
          have := dg_le_iff.1 hle; omega
        have hst := rnd_sticky p how x1 x2 (e - 19) k s false hsk (by unfold dropS; omega) (by omega)
        rw [Bool.false_or] at hst
        rw [← hst, hZ, hmin, hx2, hx1, show e - 19 - (k : Int) = f by omega]
      · simp only; omega
      · simp only; omega
      · simp only; omega
    by_cases hs : decide (m < 0) = decide (n < 0)
    · have hq := add_same (decide (m < 0)) a b m n sm (hs ▸ sn) d
      rw [hpow] at hq
      rw [← hs] at fin ⊢
      have hnz : C * 10 ^ k + b ≠ 0 := by
        have : 1 * 1 ≤ C * 10 ^ k := Nat.mul_le_mul (by omega) (by omega)
        omega
      refine fin (decide (m < 0), C + M, e - 19, decide (t ≠ 0)) t (sumEnd_same _ _ _ _ _ _ _ _ _ (plus_is (by omega))) rfl hsl ?_ (hq.2 hnz).symm (by simp only; omega) (by simp only; omega)
      simp only; rw [hq.1, Nat.add_mul]; rw [Nat.mul_comm] at hdm; omega
    · have hnot := neq_not hs
      have hq := add_diff (decide (m < 0)) a b m n sm (hnot ▸ sn) d
      rw [hpow] at hq
      have hc := cmp_is C M
      have hMC : M < C := by omega
      have hble : b ≤ C * 10 ^ k := by
        have : (M + 1) * 10 ^ k ≤ C * 10 ^ k := Nat.mul_le_mul_right _ hMC
        rw [Nat.add_mul, Nat.one_mul] at this; rw [Nat.mul_comm] at hdm; omega
      have hq1 := hq.1 hble
      have hkey : (C - M) * 10 ^ k = C * 10 ^ k - M * 10 ^ k := Nat.sub_mul _ _ _
      have hMk : M * 10 ^ k ≤ C * 10 ^ k := Nat.mul_le_mul_right _ (by omega)
      have hbig : 1000000000000000000 * 10 ^ k ≤ (C - M - 1) * 10 ^ k := Nat.mul_le_mul_right _ (by omega)
      have hne : C * 10 ^ k - b ≠ 0 := by
        have h1 : (C - M - 1) * 10 ^ k = (C - M) * 10 ^ k - 10 ^ k := by rw [Nat.sub_mul (C - M) 1, Nat.one_mul]
        rw [Nat.mul_comm] at hdm
        have h2 : 1 ≤ 1000000000000000000 * 10 ^ k := Nat.mul_pos (by decide) hkp
        omega
      by_cases ht : t = 0
      · rw [show decide (t ≠ 0) = false from decide_eq_false (fun h => h ht)] at fin
        refine fin (decide (m < 0), C - M, e - 19, false) 0 (sumEnd_ge _ _ hs _ _ _ _ _ _ _ _ hc (by rw [if_neg (by omega), if_neg (by omega)]; decide) (minus_is (by omega) (by omega))) rfl hkp ?_ (hq1.2 hne).symm (by simp only; omega) (by simp only; omega)
        simp only; rw [hq1.1, hkey]; rw [Nat.mul_comm] at hdm; omega
      · rw [show decide (t ≠ 0) = true from decide_eq_true ht] at fin
        have hm1 := minus_is (n := C) (m := M) (by omega) (by omega)
        have hm2 := minus_is (n := C - M) (m := 1) (by omega) (by omega)
        rw [show hiw 1 = 0 from rfl, show low 1 = 1 from rfl] at hm2
        refine fin (decide (m < 0), C - M - 1, e - 19, true) (10 ^ k - t) (sumEnd_more _ _ hs _ _ _ _ _ _ _ _ _ _ hc (by rw [if_neg (by omega), if_neg (by omega)]; decide) (fun h => by have := hl_inj h.1 h.2; omega) hm1 hm2) ?_ (by omega) ?_ (hq1.2 hne).symm (by simp only; omega) (by simp only; omega)
        · simp only [Prod.mk.injEq, true_and]; exact (decide_eq_true (by omega)).symm
        · simp only; rw [hq1.1]
          have h1 : (C - M - 1) * 10 ^ k = (C - M) * 10 ^ k - 10 ^ k := by rw [Nat.sub_mul (C - M) 1, Nat.one_mul]
          rw [h1, hkey]; rw [Nat.mul_comm] at hdm
          have h2 : 1000000000000000000 * 10 ^ k + 10 ^ k ≤ (C - M) * 10 ^ k := by omega
          omega
theorem add_in (k : Nat) (how p m e n f H L H2 L2 X0 X1 E : Int) (xn yn x1 mo : Bool) (h1 : reals_of.f m e = some (xn, H, L, e, false)) (h2 : reals_of.f n f = some (yn, H2, L2, f, false)) (h3 : reals_sum.f xn H L e false yn H2 L2 f false = some (x1, X0, X1, E, mo)) :
    reals_Add.j0 (k + 1) how p m e n f = (reals_exact_round.f k x1 X0 X1 E mo p how).bind fun bt189 => (some (bt189.1, bt189.2.1, bt189.2.2)) := by
  simp only [reals_Add.j0]; rw [h1]; simp only [Option.bind_some]; rw [h2]; simp only [Option.bind_some]; rw [h3]; simp only [Option.bind_some]
theorem add_j0 {s : Int} (hs : er s = 0) (how : Int) (h0 : 0 ≤ how) (h3 : how ≤ 3) (m e n f : Int) (hm : I64 m) (hn : I64 n) (o1 : okB (pd s) m.natAbs e = true) (o2 : okB (pd s) n.natAbs f = true) (hm0 : m ≠ 0) (hef : f ≤ e) :
    Ev (fun k => reals_Add.j0 k how (pd s) m e n f) (flat (rnd (pd s) how (decide (addZ m e n f < 0)) (addZ m e n f).natAbs (min e f) false)) := by
  have hp := pd_of hs
  have b1 := okB_bd o1 (by omega); have b2 := okB_bd o2 (by omega)
  obtain ⟨⟨x1, x2, E, mo⟩, hsum, hx⟩ := sum_is (p := pd s) (by omega) how m e n f b1.1 b2.1 hm0 b1.2.2.2.1 b2.2.2.1 hef
  have hr := round_is hs how h0 h3 x1 (n := x2) hx.b E (by have := hx.l; simp only at this; omega) (by have := hx.h; simp only at this; omega) mo
  rw [← hx.r]
  exact Ev.step (fun k => add_in k how (pd s) m e n f _ _ _ _ _ _ _ _ _ _ _ (pof_is hm.1 hm.2) (pof_is hn.1 hn.2) hsum) (Ev.bind hr (Ev.now (flat _)))
theorem padd_is (s how m e n f : Int) (hm : I64 m) (hn : I64 n) : Ev (fun k => reals_Add.f k s how m e n f) (addS s how m e n f) := by
  unfold reals_Add.f addS
  refine prog_op s how _ (two_bd hm hn) (by simp) _ (two_ok s m e n f) _ ?_ ?_
  · intro hs h0 h3 ho
    rw [Bool.and_eq_true] at ho
    have hp := pd_of hs
    have b1 := okB_bd ho.1 (by omega); have b2 := okB_bd ho.2 (by omega)
    by_cases hm0 : m = 0
    · subst hm0
      have he : e = 0 := b1.2.2.2.2.z rfl
      subst he
      rw [add_zero_is (pd s) how n f b2.2.2.2.2]
      refine Ev.congr (fun k => ?_) (Ev.now _)
      rw [if_pos rfl, if_pos rfl]
    · by_cases hn0 : n = 0
      · subst hn0
        have hf : f = 0 := b2.2.2.2.2.z rfl
        subst hf
        rw [addZ_comm, Int.min_comm, add_zero_is (pd s) how m e b1.2.2.2.2]
        refine Ev.congr (fun k => ?_) (Ev.now _)
        rw [if_pos rfl, if_neg hm0, if_pos rfl]
      · by_cases hlt : e < f
        · rw [addZ_comm, Int.min_comm]
          refine Ev.congr (fun k => ?_) (add_j0 hs how h0 h3 n f m e hn hm ho.2 ho.1 hn0 (by omega))
          rw [if_pos rfl, if_neg hm0, if_neg hn0, if_pos hlt]
        · refine Ev.congr (fun k => ?_) (add_j0 hs how h0 h3 m e n f hm hn ho.1 ho.2 hm0 (by omega))
          rw [if_pos rfl, if_neg hm0, if_neg hn0, if_neg hlt]
  · intro k t ht; rw [if_neg ht]
def subS (s how m e n f : Int) : Int × Int × Int := addS s how m e (-n) f
theorem okB_neg (p : Nat) (n : Int) (e : Int) : okB p (-n).natAbs e = okB p n.natAbs e := by rw [Int.natAbs_neg]
theorem psub_is (s how m e n f : Int) (hm : I64 m) (hn : I64 n) : Ev (fun k => reals_Sub.f k s how m e n f) (subS s how m e n f) := by
  have hS : subS s how m e n f = opS s how (okB (pd s) m.natAbs e && okB (pd s) n.natAbs f) (subS s how m e n f) := by
    unfold subS addS opS
    rw [okB_neg]
    by_cases hc : er s = 0 ∧ 0 ≤ how ∧ how ≤ 3
    · rw [if_pos hc, if_pos hc]
      by_cases ho : (okB (pd s) m.natAbs e && okB (pd s) n.natAbs f) = true
      · rw [if_pos ho, if_pos ho]
      · rw [if_neg ho, if_neg ho]
    · rw [if_neg hc, if_neg hc]
  rw [hS]
  unfold reals_Sub.f
  refine prog_op s how _ (two_bd hm hn) (by simp) _ (two_ok s m e n f) _ ?_ ?_
  · intro hs h0 h3 ho
    rw [Bool.and_eq_true] at ho
    have hp := pd_of hs
    have b2 := okB_bd ho.2 (by omega)
    have hn' : I64 (-n) := ⟨by omega, by omega⟩
    refine Ev.congr (fun k => ?_) (Ev.bind (padd_is s how m e (-n) f hm hn') (Ev.now (addS s how m e (-n) f)))
    rw [if_pos rfl, x64 (by omega) (by omega)]
  · intro k t ht; rw [if_neg ht]
theorem or_add (a j : Nat) : (2 ^ (j + 1) * a) ||| 2 ^ j = 2 ^ (j + 1) * a + 2 ^ j := (Nat.two_pow_add_eq_or_of_lt (Nat.pow_lt_pow_right (by decide) (Nat.lt_succ_self j)) a).symm
def bitN : Nat → Nat | 0 => 0 | j + 1 => 2 ^ j
theorem bitN_half (j : Nat) : ((bitN (j + 1) : Nat) : Int) / 2 = ((bitN j : Nat) : Int) := by
  cases j with
  | zero => rfl
  | succ j => simp only [bitN]; rw [Nat.pow_succ]; omega
theorem mul64_sq {a : Nat} (h : a < 18446744073709551616) : bits_Mul64.f (a : Int) (a : Int) = some (hiw (a * a), low (a * a)) := by
  unfold bits_Mul64.f
  have hu : U64 (a : Int) := ⟨by unfold u64s; omega⟩
  rw [if_pos ⟨hu, hu⟩]
  unfold hiw low u64s
  rw [← Int.natCast_mul]
  rfl
theorem root_in (k : Nat) (r b c H L P Q v : Int) (hb : b > 0) (ho : Go.bits .or .u64 r b = c) (hm : bits_Mul64.f c c = some (P, Q)) (hc : reals_wide_compare.f P Q H L = some v) :
    reals_wide_root.l0 (k + 1) r b H L = if v ≤ 0 then reals_wide_root.l0 k c (b / 2) H L else reals_wide_root.l0 k r (b / 2) H L := by
  simp only [reals_wide_root.l0]; rw [if_pos hb, ho, hm]; simp only [Option.bind_some]; rw [hc]; simp only [Option.bind_some]
theorem root_l0 (x : Nat) : ∀ (j a : Nat), j ≤ 64 → 2 ^ j * a + 2 ^ j ≤ 2 ^ 64 → 2 ^ j * a * (2 ^ j * a) ≤ x → x < (2 ^ j * a + 2 ^ j) * (2 ^ j * a + 2 ^ j) →
    ∃ r : Nat, r * r ≤ x ∧ x < (r + 1) * (r + 1) ∧ r < 2 ^ 64 ∧ Ev (fun k => reals_wide_root.l0 k ((2 ^ j * a : Nat) : Int) ((bitN j : Nat) : Int) (hiw x) (low x)) (r : Int) := by
  intro j
  induction j with
  | zero =>
    intro a _ h1 h2 h3
    rw [Nat.pow_zero, Nat.one_mul] at h1 h2 h3
    refine ⟨a, h2, h3, by omega, ?_⟩
    rw [Nat.pow_zero, Nat.one_mul]
    refine Ev.step (f := fun _ => some (a : Int)) (fun k => ?_) (Ev.now _)
    have hb : ¬ (((bitN 0 : Nat) : Int) > 0) := by decide
    simp only [reals_wide_root.l0]; rw [if_neg hb]
  | succ j ih =>
    intro a hj h1 h2 h3
    have hp : 0 < 2 ^ j := Nat.pow_pos (by decide)
    have e2 : 2 ^ (j + 1) = 2 ^ j * 2 := Nat.pow_succ ..
    have hor : Go.bits .or .u64 ((2 ^ (j + 1) * a : Nat) : Int) ((bitN (j + 1) : Nat) : Int) = ((2 ^ (j + 1) * a + 2 ^ j : Nat) : Int) := by
      rw [bits_or_u64_nat _ _ (by omega) (by simp only [bitN]; omega)]
      simp only [bitN]; rw [or_add]
    have hlt : 2 ^ (j + 1) * a + 2 ^ j < 18446744073709551616 := by omega
    have hm := mul64_sq hlt
    have hb : ((bitN (j + 1) : Nat) : Int) > 0 := by simp only [bitN]; omega
    have ea : 2 ^ (j + 1) * a = 2 ^ j * (2 * a) := by rw [e2, Nat.mul_assoc]
    have eb : 2 ^ (j + 1) * a + 2 ^ j = 2 ^ j * (2 * a + 1) := by rw [ea, Nat.mul_add, Nat.mul_one]
    have hc := cmp_is ((2 ^ (j + 1) * a + 2 ^ j) * (2 ^ (j + 1) * a + 2 ^ j)) x
    by_cases hle : (2 ^ (j + 1) * a + 2 ^ j) * (2 ^ (j + 1) * a + 2 ^ j) ≤ x
    · have hv : (if (2 ^ (j + 1) * a + 2 ^ j) * (2 ^ (j + 1) * a + 2 ^ j) = x then (0 : Int) else if (2 ^ (j + 1) * a + 2 ^ j) * (2 ^ (j + 1) * a + 2 ^ j) < x then -1 else 1) ≤ 0 := by
        split
        · decide
        · rw [if_pos (by omega)]; decide
      obtain ⟨r, r1, r2, r3, r4⟩ := ih (2 * a + 1) (by omega) (by rw [← eb]; omega) (by rw [← eb]; exact hle) (by rw [← eb]; rw [show 2 ^ (j + 1) * a + 2 ^ j + 2 ^ j = 2 ^ (j + 1) * a + 2 ^ (j + 1) by omega]; exact h3)
      refine ⟨r, r1, r2, r3, Ev.step (fun k => ?_) r4⟩
      rw [root_in k _ _ _ _ _ _ _ _ hb hor hm hc, if_pos hv, bitN_half, eb]
    · have hv : ¬ (if (2 ^ (j + 1) * a + 2 ^ j) * (2 ^ (j + 1) * a + 2 ^ j) = x then (0 : Int) else if (2 ^ (j + 1) * a + 2 ^ j) * (2 ^ (j + 1) * a + 2 ^ j) < x then -1 else 1) ≤ 0 := by
        rw [if_neg (by omega), if_neg (by omega)]; decide
      obtain ⟨r, r1, r2, r3, r4⟩ := ih (2 * a) (by omega) (by rw [← ea]; omega) (by rw [← ea]; exact h2) (by rw [← ea]; omega)
      refine ⟨r, r1, r2, r3, Ev.step (fun k => ?_) r4⟩
      rw [root_in k _ _ _ _ _ _ _ _ hb hor hm hc, if_neg hv, bitN_half, ea]
/-- the program's root is the whole part of the root -/
theorem root_is {x : Nat} (hx : x < 10 ^ 38) : ∃ r : Nat, r * r ≤ x ∧ x < (r + 1) * (r + 1) ∧ r < 2 ^ 64 ∧ Ev (fun k => reals_wide_root.f k (hiw x) (low x)) (r : Int) := by
  obtain ⟨r, h1, h2, h3, h4⟩ := root_l0 x 64 0 (by omega) (by simp) (by simp) (by simp; omega)
  exact ⟨r, h1, h2, h3, h4⟩
/-- the whole part of the root -/
def isq : Nat → Nat | 0 => 0 | n + 1 => if (isq n + 1) * (isq n + 1) ≤ n + 1 then isq n + 1 else isq n
theorem isq_is (n : Nat) : isq n * isq n ≤ n ∧ n < (isq n + 1) * (isq n + 1) := by
  induction n with
  | zero => exact ⟨Nat.le_refl _, by decide⟩
  | succ n ih =>
    simp only [isq]
    by_cases h : (isq n + 1) * (isq n + 1) ≤ n + 1
    · rw [if_pos h]
      refine ⟨h, ?_⟩
      have : (isq n + 1 + 1) * (isq n + 1 + 1) = (isq n + 1) * (isq n + 1) + 2 * (isq n + 1) + 1 := by
        rw [Nat.add_mul, Nat.mul_add, Nat.one_mul, Nat.mul_one]; omega
      omega
    · rw [if_neg h]; exact ⟨by omega, by omega⟩
theorem isq_of {n r : Nat} (h1 : r * r ≤ n) (h2 : n < (r + 1) * (r + 1)) : r = isq n := by
  have h := isq_is n
  rcases Nat.lt_trichotomy r (isq n) with hl | he | hg
  · have := Nat.mul_le_mul hl hl
    simp only [Nat.succ_eq_add_one] at this; omega
  · exact he
  · have := Nat.mul_le_mul hg hg
    simp only [Nat.succ_eq_add_one] at this; omega
/-- more digits of a root -/
theorem isq_sticky (A t : Nat) : ∃ s : Nat, isq (A * 10 ^ (2 * t)) = isq A * 10 ^ t + s ∧ s < 10 ^ t ∧ (decide (isq (A * 10 ^ (2 * t)) * isq (A * 10 ^ (2 * t)) ≠ A * 10 ^ (2 * t)) || decide (s ≠ 0)) = decide (isq A * isq A ≠ A) := by
  have hA := isq_is A
  have hB := isq_is (A * 10 ^ (2 * t))
  have hp := p10 t
  have e2 : 10 ^ (2 * t) = 10 ^ t * 10 ^ t := by rw [← Nat.pow_add]; congr 1; omega
  rw [e2] at hB ⊢
  clear e2
  generalize isq A = q at *
  generalize isq (A * (10 ^ t * 10 ^ t)) = r at *
  generalize 10 ^ t = P at *
  have sq : ∀ u : Nat, u * P * (u * P) = u * u * (P * P) := by
    intro u; rw [Nat.mul_assoc, ← Nat.mul_assoc P u P, Nat.mul_comm P u, Nat.mul_assoc u P P, ← Nat.mul_assoc]
  have hlo : q * P ≤ r := by
    refine Nat.le_of_not_lt fun h => ?_
    have h1 := Nat.mul_le_mul h h
    simp only [Nat.succ_eq_add_one] at h1
    rw [sq] at h1
    have h2 := Nat.mul_le_mul_right (P * P) hA.1
    exact absurd (Nat.le_trans h1 h2) (Nat.not_le.2 hB.2)
  have hhi : r < (q + 1) * P := by
    refine Nat.lt_of_not_le fun h => ?_
    have h1 := Nat.mul_le_mul h h
    rw [sq] at h1
    have h2 := Nat.mul_lt_mul_of_pos_right hA.2 (Nat.mul_pos hp hp)
    exact absurd (Nat.le_trans h1 hB.1) (Nat.not_le.2 h2)
  refine ⟨r - q * P, by omega, by rw [Nat.add_mul, Nat.one_mul] at hhi; omega, ?_⟩
  by_cases hx : q * q = A
  · have hr : r = q * P := by
      refine Nat.le_antisymm ?_ hlo
      refine Nat.le_of_not_lt fun h => ?_
      have h1 := Nat.mul_le_mul h h
      simp only [Nat.succ_eq_add_one] at h1
      have h3 : (q * P + 1) * (q * P + 1) = q * P * (q * P) + 2 * (q * P) + 1 := by
        rw [Nat.add_mul, Nat.mul_add, Nat.one_mul, Nat.mul_one]; omega
      rw [h3, sq, hx] at h1
      have h4 := Nat.le_trans h1 hB.1
      omega
    rw [hr, sq, hx]; simp
  · rw [decide_eq_true hx]
    by_cases hs : r - q * P = 0
    · have hr : r = q * P := by omega
      have : r * r ≠ A * (P * P) := by
        rw [hr, sq]; intro h; exact hx (Nat.eq_of_mul_eq_mul_right (Nat.mul_pos hp hp) h)
      rw [decide_eq_true this, Bool.true_or]
    · rw [decide_eq_true hs, Bool.or_true]
/-- the number of zeros that the reference lays behind -/
def zer (e : Int) : Nat := if Int.tmod e 2 = 0 then 60 else 61
def sqrtS (s how m e : Int) : Int × Int × Int := opS s how (okB (pd s) m.natAbs e) (if m < 0 then (0, 0, 11) else flat (rnd (pd s) how false (isq (m.natAbs * 10 ^ zer e)) ((e - zer e) / 2) (decide (isq (m.natAbs * 10 ^ zer e) * isq (m.natAbs * 10 ^ zer e) ≠ m.natAbs * 10 ^ zer e))))
theorem sqrt_same (p : Nat) (hp : p ≤ 18) (how : Int) (c : Nat) (hc : c < 1000000000000000000) (e : Int) (N : Nat) (hN : N = 38 - dg c ∨ N + 1 = 38 - dg c) (hpar : (e - N) % 2 = 0) (hpar2 : (e - zer e) % 2 = 0) :
    rnd p how false (isq (c * 10 ^ zer e)) ((e - zer e) / 2) (decide (isq (c * 10 ^ zer e) * isq (c * 10 ^ zer e) ≠ c * 10 ^ zer e)) = rnd p how false (isq (c * 10 ^ N)) ((e - N) / 2) (decide (isq (c * 10 ^ N) * isq (c * 10 ^ N) ≠ c * 10 ^ N)) := by
  have hz0 : isq 0 = 0 := rfl
  by_cases hz : c = 0
  · subst hz
    rw [Nat.zero_mul, Nat.zero_mul, hz0, show decide ((0 : Nat) * 0 ≠ 0) = false from rfl, rnd_zero, rnd_zero]
  · have hd := dg_pos hz
    have hd18 : dg c ≤ 18 := dg_le_iff.2 (by omega)
    have hzr : zer e = 60 ∨ zer e = 61 := by unfold zer; split <;> simp
    obtain ⟨t, ht⟩ : ∃ t : Nat, zer e = N + 2 * t := ⟨(zer e - N) / 2, by omega⟩
    have hA : 10 ^ 36 ≤ c * 10 ^ N := by
      have h1 := dg_le hz
      have h2 : 10 ^ 36 ≤ 10 ^ (dg c - 1) * 10 ^ N := by rw [← Nat.pow_add]; exact Nat.pow_le_pow_right (by decide) (by omega)
      exact Nat.le_trans h2 (Nat.mul_le_mul_right _ h1)
    have eA : c * 10 ^ zer e = c * 10 ^ N * 10 ^ (2 * t) := by rw [ht, Nat.pow_add, Nat.mul_assoc]
    rw [eA]
    generalize c * 10 ^ N = A at *
    obtain ⟨s, h1, h2, h3⟩ := isq_sticky A t
    have hq : 10 ^ 18 ≤ isq A := by
      refine Nat.le_of_not_lt fun h => ?_
      have := (isq_is A).2
      have h4 : (isq A + 1) * (isq A + 1) ≤ 10 ^ 18 * 10 ^ 18 := Nat.mul_le_mul (by omega) (by omega)
      omega
    have hdq : 19 ≤ dg (isq A) := by
      refine Nat.lt_of_not_le fun hle => ?_
      have := dg_le_iff.1 hle; omega
    have hst := rnd_sticky p how false (isq A) ((e - N) / 2) t s (decide (isq (A * 10 ^ (2 * t)) * isq (A * 10 ^ (2 * t)) ≠ A * 10 ^ (2 * t))) h2 (by unfold dropS; omega) (by omega)
    rw [h3, ← h1] at hst
    rw [← hst]
    congr 1; omega
theorem sqrt_in (k : Nat) (how p N m e H L C D R P Q E : Int) (mo : Bool) (hs : reals_wide_scaled.f k H L N = some (C, D)) (hr : reals_wide_root.f k C D = some R) (hq : reals_square.f R = some (P, Q)) (hE : wrap64 (Int.tdiv (wrap64 (e - N)) 2) = E) (hm : (!(P == C) || (!(Q == D))) = mo) :
    reals_Sqrt.j0 (k + 1) how p N m e H L = (reals_exact_round.f k false 0 R E mo p how).bind fun bt238 => (some (bt238.1, bt238.2.1, bt238.2.2)) := by
  simp only [reals_Sqrt.j0]; rw [hs]; simp only [Option.bind_some]; rw [hr]; simp only [Option.bind_some]; rw [hq]; simp only [Option.bind_some]; rw [hE, hm]
theorem sqrt_f_in (k : Nat) (how p m e H L t N : Int) (hm0 : ¬ m < 0) (hm : reals_magnitude.f m = some (H, L)) (hd : reals_wide_digits.f H L = some t) (hN : wrap64 (38 - t) = N) :
    (if (((p, 0) : Int × Int)).2 = 0 then (if m < 0 then (some (0, 0, 11)) else ((reals_magnitude.f m).bind fun bt229 => ((reals_wide_digits.f bt229.1 bt229.2).bind fun t232 => (if (Int.tmod (wrap64 (e - (wrap64 (38 - t232)))) 2) = 0 then (reals_Sqrt.j0 k how (((p, 0) : Int × Int)).1 (wrap64 (38 - t232)) m e bt229.1 bt229.2) else (reals_Sqrt.j0 k how (((p, 0) : Int × Int)).1 (wrap64 ((wrap64 (38 - t232)) - 1)) m e bt229.1 bt229.2))))) else (some (0, 0, (((p, 0) : Int × Int)).2))) = if (Int.tmod (wrap64 (e - N)) 2) = 0 then (reals_Sqrt.j0 k how p N m e H L) else (reals_Sqrt.j0 k how p (wrap64 (N - 1)) m e H L) := by
  rw [if_pos rfl, if_neg hm0, hm]; simp only [Option.bind_some]; rw [hd]; simp only [Option.bind_some]; rw [hN]
theorem sq_is {r : Nat} (h : r < 18446744073709551616) : reals_square.f (r : Int) = some (hiw (r * r), low (r * r)) := by
  unfold reals_square.f; rw [mul64_sq h]; rfl
theorem sqrt_j0 {s : Int} (hs : er s = 0) (how : Int) (h0 : 0 ≤ how) (h3 : how ≤ 3) (m e : Int) (hm : m.natAbs < 1000000000000000000) (he : -400 ≤ e) (he2 : e ≤ 418) (N : Nat) (hN : N = 38 - dg m.natAbs ∨ N + 1 = 38 - dg m.natAbs) (hpar : (e - N) % 2 = 0) :
    Ev (fun k => reals_Sqrt.j0 k how (pd s) (N : Int) m e (hiw m.natAbs) (low m.natAbs)) (flat (rnd (pd s) how false (isq (m.natAbs * 10 ^ N)) ((e - N) / 2) (decide (isq (m.natAbs * 10 ^ N) * isq (m.natAbs * 10 ^ N) ≠ m.natAbs * 10 ^ N)))) := by
  have hp := pd_of hs
  have hd18 : dg m.natAbs ≤ 18 := dg_le_iff.2 (by omega)
  have hlt : m.natAbs * 10 ^ N < 10 ^ 38 := by
    have h1 := dg_lt m.natAbs
    have h2 : 10 ^ dg m.natAbs * 10 ^ N ≤ 10 ^ 38 := by rw [← Nat.pow_add]; exact Nat.pow_le_pow_right (by decide) (by omega)
    exact Nat.lt_of_lt_of_le (Nat.mul_lt_mul_of_pos_right h1 (p10 _)) h2
  obtain ⟨K1, hsc⟩ := scaled_ev (n := m.natAbs) (d := N) (by omega) (by omega)
  generalize m.natAbs * 10 ^ N = A at *
  obtain ⟨r, r1, r2, r3, K2, hrt⟩ := root_is hlt
  have hrq := isq_of r1 r2
  rw [← hrq]
  have hsq := sq_is (r := r) (by omega)
  have hl := hl_small (n := r) (by omega)
  have hE : wrap64 (Int.tdiv (wrap64 (e - (N : Int))) 2) = (e - N) / 2 := by
    rw [x64 (n := e - (N : Int)) (by omega) (by omega)]
    have : Int.tdiv (e - (N : Int)) 2 = (e - N) / 2 := by
      obtain ⟨q, hq⟩ : ∃ q : Int, e - (N : Int) = 2 * q := ⟨(e - N) / 2, by omega⟩
      rw [hq, Int.mul_tdiv_cancel_left _ (by decide), Int.mul_ediv_cancel_left _ (by decide)]
    rw [this]; exact x64 (by omega) (by omega)
  have hmo : (!(hiw (r * r) == hiw A) || (!(low (r * r) == low A))) = decide (r * r ≠ A) := by
    by_cases h : r * r = A
    · rw [h]; simp
    · rw [decide_eq_true h]
      by_cases h1 : hiw (r * r) = hiw A
      · have h2 : ¬ low (r * r) = low A := fun h2 => h (hl_inj h1 h2)
        rw [beq_eq_false_iff_ne.2 h2]; simp
      · rw [beq_eq_false_iff_ne.2 h1]; simp
  have hr := round_is hs how h0 h3 false (n := r) (by omega) ((e - N) / 2) (by omega) (by omega) (decide (r * r ≠ A))
  rw [hl.1, hl.2] at hr
  obtain ⟨K3, hr3⟩ := Ev.bind hr (Ev.now (flat (rnd (pd s) how false r ((e - N) / 2) (decide (r * r ≠ A)))))
  refine ⟨K1 + K2 + K3 + 1, fun k hk => ?_⟩
  obtain ⟨k, rfl⟩ : ∃ j, k = j + 1 := ⟨k - 1, by omega⟩
  exact (sqrt_in k how (pd s) N m e _ _ _ _ _ _ _ _ _ (hsc k (by omega)) (hrt k (by omega)) hsq hE hmo).trans (hr3 k (by omega))
theorem tmod_two (x : Int) : Int.tmod x 2 = 0 ↔ x % 2 = 0 := by
  constructor
  · intro h; have := Int.mul_tdiv_add_tmod x 2; omega
  · intro h
    obtain ⟨q, hq⟩ : ∃ q : Int, x = 2 * q := ⟨x / 2, by omega⟩
    rw [hq]; exact Int.mul_tmod_right 2 q
theorem psqrt_is (s how m e : Int) (hm : I64 m) : Ev (fun k => reals_Sqrt.f k s how m e) (sqrtS s how m e) := by
  unfold reals_Sqrt.f sqrtS
  refine prog_op s how _ (by intro x hx; simp only [List.mem_cons, List.not_mem_nil, or_false] at hx; subst hx; exact hm) (by simp) _ (by simp) _ ?_ ?_
  · intro hs h0 h3 ho
    have hp := pd_of hs
    have b1 := okB_bd ho (by omega)
    by_cases hm0 : m < 0
    · rw [if_pos hm0]
      refine Ev.congr (fun k => ?_) (Ev.now _)
      rw [if_pos rfl, if_pos hm0]
    · rw [if_neg hm0]
      have hd18 : dg m.natAbs ≤ 18 := dg_le_iff.2 (by omega)
      have hz2 : (e - zer e) % 2 = 0 := by
        unfold zer
        have := tmod_two e
        split
        · rename_i h; have := this.1 h; omega
        · rename_i h; have : ¬ e % 2 = 0 := fun h' => h (this.2 h'); omega
      have hN : wrap64 (38 - ((dg m.natAbs : Nat) : Int)) = ((38 - dg m.natAbs : Nat) : Int) := by rw [x64 (by omega) (by omega)]; omega
      have hin := fun k => sqrt_f_in k how (pd s) m e _ _ _ _ hm0 (mag_is hm.1 hm.2) (pdig_is (two128 (by omega))) hN
      have hw : wrap64 (e - ((38 - dg m.natAbs : Nat) : Int)) = e - ((38 - dg m.natAbs : Nat) : Int) := x64 (by omega) (by omega)
      by_cases hpar : (e - ((38 - dg m.natAbs : Nat) : Int)) % 2 = 0
      · rw [sqrt_same (pd s) (by omega) how m.natAbs b1.1 e (38 - dg m.natAbs) (.inl rfl) hpar hz2]
        refine Ev.congr (fun k => ?_) (sqrt_j0 hs how h0 h3 m e b1.1 b1.2.2.1 b1.2.2.2.1 (38 - dg m.natAbs) (.inl rfl) hpar)
        refine (hin k).trans ?_
        rw [hw, if_pos ((tmod_two _).2 hpar)]
      · rw [sqrt_same (pd s) (by omega) how m.natAbs b1.1 e (38 - dg m.natAbs - 1) (.inr (by omega)) (by omega) hz2]
        refine Ev.congr (fun k => ?_) (sqrt_j0 hs how h0 h3 m e b1.1 b1.2.2.1 b1.2.2.2.1 (38 - dg m.natAbs - 1) (.inr (by omega)) (by omega))
        refine (hin k).trans ?_
        rw [hw, if_neg (fun h => hpar ((tmod_two _).1 h)), x64 (by omega) (by omega), show ((38 - dg m.natAbs : Nat) : Int) - 1 = ((38 - dg m.natAbs - 1 : Nat) : Int) by omega]
  · intro k t ht; rw [if_neg ht]
def sg (m : Int) : Int := if m < 0 then -1 else if m > 0 then 1 else 0
def c3 (a b : Nat) : Int := if a = b then 0 else if a < b then -1 else 1
/-- the magnitudes compared; the first exponent is not the less one -/
def cmpA (m e n f : Int) : Int := if e - f > 19 then 1 else c3 (m.natAbs * 10 ^ (e - f).toNat) n.natAbs
def cmpS (m e n f : Int) : Int := if sg m < sg n then -1 else if sg m > sg n then 1 else if m = 0 then 0 else if e < f then sg m * -1 * cmpA n f m e else sg m * 1 * cmpA m e n f
/-- the value of a number, in units of 10 to the power of -400 -/
def W (m e : Int) : Int := m * 10 ^ (e + 400).toNat
theorem c3_mul (a b : Nat) {k : Nat} (h : 0 < k) : c3 (a * k) (b * k) = c3 a b := by
  unfold c3
  have h1 : a * k = b * k ↔ a = b := ⟨fun h' => Nat.eq_of_mul_eq_mul_right h h', fun h' => by rw [h']⟩
  have h2 : a * k < b * k ↔ a < b := Nat.mul_lt_mul_right h
  simp only [h1, h2]
theorem c3_swap (a b : Nat) : c3 a b = -c3 b a := by
  unfold c3; split <;> split <;> (try split) <;> (try split) <;> omega
theorem ok_bd {p n : Nat} {e : Int} (h : Ok p n e) (hp : p ≤ 18) : n < 1000000000000000000 ∧ -400 ≤ e ∧ e ≤ 418 := by
  have h1 := dg_le_iff.1 h.d
  have h2 : 10 ^ p ≤ 10 ^ 18 := Nat.pow_le_pow_right (by decide) hp
  have := h.h; have := h.l
  exact ⟨by omega, by omega, by omega⟩
theorem okB_ok {p n : Nat} {e : Int} (h : Ok p n e) : okB p n e = true := by
  unfold okB
  by_cases hz : n = 0
  · rw [if_pos hz, decide_eq_true_eq]; exact h.z hz
  · rw [if_neg hz, decide_eq_true_eq]; exact ⟨h.t hz, h.d, h.l, h.h⟩
theorem cmpA_is {m e n f : Int} (hm : m ≠ 0) (hn : n.natAbs < 1000000000000000000) (hef : f ≤ e) (hf : -400 ≤ f) : cmpA m e n f = c3 (m.natAbs * 10 ^ (e + 400).toNat) (n.natAbs * 10 ^ (f + 400).toNat) := by
  have h1 : c3 (m.natAbs * 10 ^ (e + 400).toNat) (n.natAbs * 10 ^ (f + 400).toNat) = c3 (m.natAbs * 10 ^ (e - f).toNat) n.natAbs := by
    rw [show (e + 400).toNat = (e - f).toNat + (f + 400).toNat by omega, Nat.pow_add, ← Nat.mul_assoc, c3_mul _ _ (p10 _)]
  rw [h1]
  unfold cmpA
  by_cases h : e - f > 19
  · rw [if_pos h]
    have h2 : 10 ^ 18 ≤ 10 ^ (e - f).toNat := Nat.pow_le_pow_right (by decide) (by omega)
    have h3 : 1 * 10 ^ (e - f).toNat ≤ m.natAbs * 10 ^ (e - f).toNat := Nat.mul_le_mul_right _ (by omega)
    unfold c3; rw [if_neg (by omega), if_neg (by omega)]
  · rw [if_neg h]
theorem sg3 (m : Int) : sg m = -1 ∧ m < 0 ∨ sg m = 0 ∧ m = 0 ∨ sg m = 1 ∧ 0 < m := by
  unfold sg
  split
  · left; omega
  · split <;> omega
theorem W_abs (m e : Int) : W m e = sg m * (m.natAbs * 10 ^ (e + 400).toNat : Nat) := by
  unfold W sg
  have e : ((m.natAbs * 10 ^ (e + 400).toNat : Nat) : Int) = (m.natAbs : Int) * 10 ^ (e + 400).toNat := by simp
  rw [e]
  by_cases h : m < 0
  · rw [if_pos h, show (m.natAbs : Int) = -m by omega, ← Int.mul_assoc]; congr 1; omega
  · rw [if_neg h]
    by_cases h2 : m > 0
    · rw [if_pos h2, show (m.natAbs : Int) = m by omega, Int.one_mul]
    · rw [if_neg h2, show m = 0 by omega]; simp
theorem V_pos {m : Int} (h : m ≠ 0) (k : Nat) : 0 < m.natAbs * 10 ^ k := Nat.mul_pos (by omega) (p10 k)
/-- Compare tells the order of the values -/
theorem cmp_val {p q : Nat} (hp : p ≤ 18) (hq : q ≤ 18) {m e n f : Int} (h1 : Ok p m.natAbs e) (h2 : Ok q n.natAbs f) : cmpS m e n f ≤ 0 ↔ W m e ≤ W n f := by
  have b1 := ok_bd h1 hp; have b2 := ok_bd h2 hq
  have a1 := W_abs m e; have a2 := W_abs n f
  by_cases hs : sg m = sg n
  · by_cases hz : m = 0
    · have hz2 : n = 0 := by unfold sg at hs; subst hz; simp at hs; split at hs <;> (try split at hs) <;> omega
      subst hz; subst hz2
      unfold cmpS W; simp
    · have hz2 : n ≠ 0 := by intro h; subst h; unfold sg at hs; simp at hs; split at hs <;> (try split at hs) <;> omega
      have hc : cmpS m e n f = sg m * c3 (m.natAbs * 10 ^ (e + 400).toNat) (n.natAbs * 10 ^ (f + 400).toNat) := by
        unfold cmpS
        rw [hs, if_neg (by omega), if_neg (by omega), if_neg hz]
        by_cases hef : e < f
        · rw [if_pos hef, cmpA_is hz2 (by omega) (by omega) (by omega), c3_swap, Int.mul_neg, Int.mul_neg, Int.mul_one, Int.neg_mul, Int.neg_neg]
        · rw [if_neg hef, cmpA_is hz (by omega) (by omega) (by omega), Int.mul_one]
      rw [hc, a1, a2, ← hs]
      have p1 := V_pos hz (e + 400).toNat; have p2 := V_pos hz2 (f + 400).toNat
      generalize m.natAbs * 10 ^ (e + 400).toNat = A at *
      generalize n.natAbs * 10 ^ (f + 400).toNat = B at *
      clear a1 a2 hc hs
      unfold sg c3
      split
      · split
        · omega
        · split <;> omega
      · rw [if_pos (by omega)]
        split
        · omega
        · split <;> omega
  · have p1 : 0 ≤ ((m.natAbs * 10 ^ (e + 400).toNat : Nat) : Int) := Int.natCast_nonneg _
    have p2 : 0 ≤ ((n.natAbs * 10 ^ (f + 400).toNat : Nat) : Int) := Int.natCast_nonneg _
    have p3 : m ≠ 0 → 0 < ((m.natAbs * 10 ^ (e + 400).toNat : Nat) : Int) := fun h => Int.natCast_pos.2 (V_pos h _)
    have p4 : n ≠ 0 → 0 < ((n.natAbs * 10 ^ (f + 400).toNat : Nat) : Int) := fun h => Int.natCast_pos.2 (V_pos h _)
    rw [a1, a2]
    unfold cmpS
    generalize ((m.natAbs * 10 ^ (e + 400).toNat : Nat) : Int) = A at *
    generalize ((n.natAbs * 10 ^ (f + 400).toNat : Nat) : Int) = B at *
    have s1 := sg3 m
    have s2 := sg3 n
    rcases s1 with ⟨s1, t1⟩ | ⟨s1, t1⟩ | ⟨s1, t1⟩ <;> rcases s2 with ⟨s2, t2⟩ | ⟨s2, t2⟩ | ⟨s2, t2⟩ <;> first | exact absurd (s1.trans s2.symm) hs | (rw [s1, s2]; simp only [ne_eq] at p3 p4; first | omega | (simp; have := p3 (by omega); omega) | (simp; have := p4 (by omega); omega) | (simp; have := p3 (by omega); have := p4 (by omega); omega))
theorem W_sgn (neg : Bool) (x : Nat × Int) : W (sgn neg x.1) x.2 = if neg = true then -(V x : Int) else V x := by
  unfold W sgn V
  cases neg
  · simp
  · simp [Int.neg_mul]
theorem sgn_natAbs (neg : Bool) (n : Nat) : (sgn neg n).natAbs = n := by unfold sgn; cases neg <;> simp
/-- what a rounding without an error has made -/
theorem rnd_some {p : Nat} (hp : p ≠ 0) {how : Int} {neg : Bool} {n : Nat} {e : Int} {more : Bool} {M E : Int} (h : rnd p how neg n e more = ((M, E), 0)) : ∃ x, rndM p how neg n e more = some x ∧ M = sgn neg x.1 ∧ E = x.2 ∧ Ok p x.1 x.2 := by
  rw [rnd_out] at h
  cases hx : rndM p how neg n e more with
  | none => rw [hx] at h; simp [outM] at h
  | some x =>
    rw [hx] at h
    unfold outM real at h
    simp only [Prod.mk.injEq] at h
    exact ⟨x, rfl, h.1.1.symm, h.1.2.symm, rndM_ok hp hx⟩
theorem flat_eq {r : (Int × Int) × Int} {M E c : Int} (h : flat r = (M, E, c)) : r = ((M, E), c) := by
  obtain ⟨⟨a, b⟩, d⟩ := r
  unfold flat at h; simp only [Prod.mk.injEq] at h
  obtain ⟨rfl, rfl, rfl⟩ := h; rfl
theorem pd_ok {s : Int} (h : er s = 0) : pd s ≠ 0 ∧ pd s ≤ 18 := by rcases pd_of h with h | h | h <;> omega
theorem Ok.more {p q n : Nat} {e : Int} (h : Ok p n e) (hpq : p ≤ q) : Ok q n e := ⟨h.z, h.t, by have := h.d; omega, h.l, by have := h.h; omega⟩
def applyS (op s how m e n f : Int) : Int × Int × Int :=
  if Int.tmod op 5 = 0 then addS s how m e n f else if Int.tmod op 5 = 1 then subS s how m e n f else if Int.tmod op 5 = 2 then mulS s how m e n f else if Int.tmod op 5 = 3 then divS s how m e n f else sqrtS s how m e
theorem opS_form (s : Int) (ok : Bool) (g : Int → Int × Int × Int) : (∃ c, c ≠ 0 ∧ ∀ how, 0 ≤ how → how ≤ 3 → opS s how ok (g how) = (0, 0, c)) ∨ (er s = 0 ∧ ∀ how, 0 ≤ how → how ≤ 3 → opS s how ok (g how) = g how) := by
  by_cases hs : er s = 0
  · by_cases ho : ok = true
    · right; refine ⟨hs, fun how h0 h3 => ?_⟩; unfold opS; rw [if_pos ⟨hs, h0, h3⟩, if_pos ho]
    · left; refine ⟨11, by decide, fun how h0 h3 => ?_⟩; unfold opS; rw [if_pos ⟨hs, h0, h3⟩, if_neg ho]
  · left; refine ⟨1, by decide, fun how h0 h3 => ?_⟩; unfold opS; rw [if_neg (fun h => hs h.1)]
/-- in all directions: an error, or one number that is rounded -/
theorem apply_form (op s m e n f : Int) : (∃ c, c ≠ 0 ∧ ∀ how, 0 ≤ how → how ≤ 3 → applyS op s how m e n f = (0, 0, c)) ∨ (er s = 0 ∧ ∃ neg N E more, ∀ how, 0 ≤ how → how ≤ 3 → applyS op s how m e n f = flat (rnd (pd s) how neg N E more)) := by
  have key : ∀ (ok : Bool) (neg : Bool) (N : Nat) (E : Int) (more : Bool), (∃ c, c ≠ 0 ∧ ∀ how, 0 ≤ how → how ≤ 3 → opS s how ok (flat (rnd (pd s) how neg N E more)) = (0, 0, c)) ∨ (er s = 0 ∧ ∃ neg N E more, ∀ how, 0 ≤ how → how ≤ 3 → opS s how ok (flat (rnd (pd s) how neg N E more)) = flat (rnd (pd s) how neg N E more)) := by
    intro ok neg N E more
    rcases opS_form s ok (fun how => flat (rnd (pd s) how neg N E more)) with h | ⟨hs, h⟩
    · exact .inl h
    · exact .inr ⟨hs, neg, N, E, more, h⟩
  have err : ∀ (ok : Bool), ∃ c, c ≠ 0 ∧ ∀ how, 0 ≤ how → how ≤ 3 → opS s how ok (0, 0, 11) = (0, 0, c) := by
    intro ok
    rcases opS_form s ok (fun _ => (0, 0, 11)) with h | ⟨_, h⟩
    · exact h
    · exact ⟨11, by decide, h⟩
  have put : ∀ (ok : Bool) (neg : Bool) (N : Nat) (E : Int) (more : Bool), (∃ c, c ≠ 0 ∧ ∀ how, 0 ≤ how → how ≤ 3 → opS s how ok (flat (rnd (pd s) how neg N E more)) = (0, 0, c)) ∨ (er s = 0 ∧ ∃ neg' N' E' more', ∀ how, 0 ≤ how → how ≤ 3 → opS s how ok (flat (rnd (pd s) how neg N E more)) = flat (rnd (pd s) how neg' N' E' more')) := by
    intro ok neg N E more
    rcases opS_form s ok (fun how => flat (rnd (pd s) how neg N E more)) with h | ⟨hs, h⟩
    · exact .inl h
    · exact .inr ⟨hs, neg, N, E, more, h⟩
  clear key
  unfold applyS
  by_cases h0 : Int.tmod op 5 = 0
  · simp only [if_pos h0]; unfold addS; exact put _ _ _ _ _
  · simp only [if_neg h0]
    by_cases h1 : Int.tmod op 5 = 1
    · simp only [if_pos h1]; unfold subS addS; exact put _ _ _ _ _
    · simp only [if_neg h1]
      by_cases h2 : Int.tmod op 5 = 2
      · simp only [if_pos h2]; unfold mulS; exact put _ _ _ _ _
      · simp only [if_neg h2]
        by_cases h3 : Int.tmod op 5 = 3
        · simp only [if_pos h3]; unfold divS
          by_cases hn : n = 0
          · simp only [if_pos hn]; exact .inl (err _)
          · simp only [if_neg hn]; exact put _ _ _ _ _
        · simp only [if_neg h3]; unfold sqrtS
          by_cases hm : m < 0
          · simp only [if_pos hm]; exact .inl (err _)
          · simp only [if_neg hm]; exact put _ _ _ _ _
theorem flat_code {p : Nat} {how : Int} {neg : Bool} {N : Nat} {E : Int} {more : Bool} {M F c : Int} (h : flat (rnd p how neg N E more) = (M, F, c)) (hc : c ≠ 0) : M = 0 ∧ F = 0 := by
  have := flat_eq h
  rw [rnd_out] at this
  cases hx : rndM p how neg N E more with
  | none => rw [hx] at this; simp only [outM, Prod.mk.injEq] at this; exact ⟨this.1.1.symm, this.1.2.symm⟩
  | some x => rw [hx] at this; simp only [outM, real, Prod.mk.injEq] at this; exact absurd this.2.symm hc
/-- an error has no number; what is no error is valid -/
theorem apply_one {op s how m e n f M E c : Int} (h0 : 0 ≤ how) (h3 : how ≤ 3) (h : applyS op s how m e n f = (M, E, c)) : (c ≠ 0 → M = 0 ∧ E = 0) ∧ (c = 0 → er s = 0 ∧ okB (pd s) M.natAbs E = true) := by
  rcases apply_form op s m e n f with ⟨d, hd, g⟩ | ⟨hs, neg, N, F, more, g⟩
  · rw [g how h0 h3] at h; simp only [Prod.mk.injEq] at h
    exact ⟨fun _ => ⟨h.1.symm, h.2.1.symm⟩, fun hc => absurd (h.2.2.trans hc) hd⟩
  · rw [g how h0 h3] at h
    refine ⟨flat_code h, fun hc => ⟨hs, ?_⟩⟩
    subst hc
    obtain ⟨x, _, rfl, rfl, hk⟩ := rnd_some (pd_ok hs).1 (flat_eq h)
    rw [sgn_natAbs]; exact okB_ok hk
/-- all four directions without an error -/
theorem apply_four {op s m e n f M0 E0 M1 E1 M2 E2 M3 E3 : Int} (g0 : applyS op s 0 m e n f = (M0, E0, 0)) (g1 : applyS op s 1 m e n f = (M1, E1, 0)) (g2 : applyS op s 2 m e n f = (M2, E2, 0)) (g3 : applyS op s 3 m e n f = (M3, E3, 0)) :
    cmpS M2 E2 M1 E1 ≤ 0 ∧ (M0 = M1 ∧ E0 = E1 ∨ M0 = M2 ∧ E0 = E2) ∧ (M2 < 0 → M3 = M1 ∧ E3 = E1) ∧ (¬ M2 < 0 → M3 = M2 ∧ E3 = E2) := by
  rcases apply_form op s m e n f with ⟨d, hd, g⟩ | ⟨hs, neg, N, F, more, g⟩
  · rw [g 0 (by decide) (by decide)] at g0; simp only [Prod.mk.injEq] at g0; exact absurd g0.2.2 hd
  · rw [g 0 (by decide) (by decide)] at g0; rw [g 1 (by decide) (by decide)] at g1; rw [g 2 (by decide) (by decide)] at g2; rw [g 3 (by decide) (by decide)] at g3
    have hp := pd_ok hs
    obtain ⟨x0, r0, rfl, rfl, k0⟩ := rnd_some hp.1 (flat_eq g0)
    obtain ⟨x1, r1, rfl, rfl, k1⟩ := rnd_some hp.1 (flat_eq g1)
    obtain ⟨x2, r2, rfl, rfl, k2⟩ := rnd_some hp.1 (flat_eq g2)
    obtain ⟨x3, r3, rfl, rfl, k3⟩ := rnd_some hp.1 (flat_eq g3)
    have hdu := down_up hp.1 r2 r1
    have hz := zero_is (pd s) neg N F more
    rw [r3] at hz
    refine ⟨?_, ?_, ?_, ?_⟩
    · rw [cmp_val hp.2 hp.2 (by rw [sgn_natAbs]; exact k2) (by rw [sgn_natAbs]; exact k1), W_sgn, W_sgn]
      cases neg
      · simp at hdu ⊢; exact hdu
      · simp at hdu ⊢; exact hdu
    · rcases near_is r0 with h | h
      · rw [r1] at h; cases h; exact .inl ⟨rfl, rfl⟩
      · rw [r2] at h; cases h; exact .inr ⟨rfl, rfl⟩
    · intro hl
      cases neg
      · unfold sgn at hl; simp at hl; omega
      · simp only [if_true] at hz; rw [r1] at hz; cases hz; exact ⟨rfl, rfl⟩
    · intro hl
      cases neg
      · simp only [Bool.false_eq_true, if_false] at hz; rw [r2] at hz; cases hz; exact ⟨rfl, rfl⟩
      · simp only [if_true] at hz hdu; rw [r1] at hz; cases hz
        have hx2 : x2.1 = 0 := by unfold sgn at hl; simp at hl; omega
        have hv2 : V x2 = 0 := by unfold V; rw [hx2, Nat.zero_mul]
        have := V_inj k1 k2 (by omega)
        rw [this]; exact ⟨rfl, rfl⟩
theorem papply_is (op s how m e n f : Int) (hm : I64 m) (hn : I64 n) : Ev (fun k => environlaw02_apply.f k op s how m e n f) (applyS op s how m e n f) := by
  unfold environlaw02_apply.f applyS
  by_cases h0 : Int.tmod op 5 = 0
  · simp only [if_pos h0]; exact Ev.bind (padd_is s how m e n f hm hn) (Ev.now _)
  · simp only [if_neg h0]
    by_cases h1 : Int.tmod op 5 = 1
    · simp only [if_pos h1]; exact Ev.bind (psub_is s how m e n f hm hn) (Ev.now _)
    · simp only [if_neg h1]
      by_cases h2 : Int.tmod op 5 = 2
      · simp only [if_pos h2]; exact Ev.bind (pmul_is s how m e n f hm hn) (Ev.now _)
      · simp only [if_neg h2]
        by_cases h3 : Int.tmod op 5 = 3
        · simp only [if_pos h3]; exact Ev.bind (pdiv_is s how m e n f hm hn) (Ev.now _)
        · simp only [if_neg h3]; exact Ev.bind (psqrt_is s how m e hm) (Ev.now _)
/-- the call of function f with these values returns v, and nothing that was there has changed -/
def Ret (f : Nat) (args : Array Value) (v : Value) : Prop := ∀ w, Calls Try.prog f args w fun e w' => e = .returned v ∧ Below w.heap.size w w'
theorem ret_b {f : Nat} {args : Array Value} {v : Value} (h : ∀ w, Calls Try.prog f args w fun e w' => e = .returned v ∧ Below w.heap.size w w') : Ret f args v := h
theorem at_w {f : Nat} {args : Array Value} {v : Value} (h : Aside0 (Ret f args v)) (w : World) : Calls Try.prog f args w fun e w' => e = .returned v ∧ Below w.heap.size w w' := h.out w
set_option maxHeartbeats 4000000 in
set_option maxRecDepth 100000 in
theorem awake_walk (h17 : Ret 17 #[.int .i64 0, .int .i64 0, .int .i64 1000, .int .i64 (-3)] (.tuple #[.agg #[.int .i64 1, .int .i64 0], .int .i64 0]))
    (h27 : Ret 27 #[.int .i64 (-1), .int .i64 1, .agg #[.int .i64 1, .int .i64 0], .agg #[.int .i64 3, .int .i64 0]] (.tuple #[.agg #[.int .i64 3333334, .int .i64 (-7)], .int .i64 0]))
    (h21 : Ret 21 #[.int .i64 (-1), .int .i64 0, .agg #[.int .i64 9999999, .int .i64 0], .agg #[.int .i64 5, .int .i64 (-1)]] (.tuple #[.agg #[.int .i64 1, .int .i64 7], .int .i64 0]))
    (h29 : Ret 29 #[.int .i64 0, .int .i64 0, .agg #[.int .i64 2, .int .i64 0]] (.tuple #[.agg #[.int .i64 14142135623731, .int .i64 (-13)], .int .i64 0])) : Ret 11 #[] (.bool true) := by
  intro w
  have hu := Try.underlying29
  have H17 := Aside0.mk h17; have H27 := Aside0.mk h27; have H21 := Aside0.mk h21; have H29 := Aside0.mk h29
  clear h17 h27 h21 h29
  go_enter Try.func11, Try.ntmps11
  go_wp2_with fail
  refine (at_w H17 _).mono ?_
  rintro e1 w1 ⟨rfl, hb⟩
  have X1 := Aside0.mk (blk_new w1 (.cells #[.int .i64 1, .int .i64 0] 29 (0, 0)))
  have HB1 := Aside0.mk (below_alloc hb (.cells #[.int .i64 1, .int .i64 0] 29 (0, 0)))
  clear hb
  go_wp2_with fail
  refine (at_w H27 _).mono ?_
  rintro e1 w2 ⟨rfl, hb⟩
  have X2 := Aside0.mk (blk_alloc (blk_below X1.out hb) (.cells #[.int .i64 3333334, .int .i64 (-7)] 29 (0, 0)))
  have Y2 := Aside0.mk (blk_new w2 (.cells #[.int .i64 3333334, .int .i64 (-7)] 29 (0, 0)))
  have HB2 := Aside0.mk (below_alloc (below_step HB1.out hb) (.cells #[.int .i64 3333334, .int .i64 (-7)] 29 (0, 0)))
  clear hb X1 HB1
  go_wp2_with fail
  refine (at_w H21 _).mono ?_
  rintro e1 w3 ⟨rfl, hb⟩
  have X3 := Aside0.mk (blk_alloc (blk_below X2.out hb) (.cells #[.int .i64 1, .int .i64 7] 29 (0, 0)))
  have Y3 := Aside0.mk (blk_alloc (blk_below Y2.out hb) (.cells #[.int .i64 1, .int .i64 7] 29 (0, 0)))
  have Z3 := Aside0.mk (blk_new w3 (.cells #[.int .i64 1, .int .i64 7] 29 (0, 0)))
  have HB3 := Aside0.mk (below_alloc (below_step HB2.out hb) (.cells #[.int .i64 1, .int .i64 7] 29 (0, 0)))
  clear hb X2 Y2 HB2
  go_wp2_with fail
  refine (at_w H29 _).mono ?_
  rintro e1 w4 ⟨rfl, hb⟩
  have X4 := blk_alloc (blk_below X3.out hb) (.cells #[.int .i64 14142135623731, .int .i64 (-13)] 29 (0, 0))
  have Y4 := blk_alloc (blk_below Y3.out hb) (.cells #[.int .i64 14142135623731, .int .i64 (-13)] 29 (0, 0))
  have Z4 := blk_alloc (blk_below Z3.out hb) (.cells #[.int .i64 14142135623731, .int .i64 (-13)] 29 (0, 0))
  have U4 := blk_new w4 (.cells #[.int .i64 14142135623731, .int .i64 (-13)] 29 (0, 0))
  have HB4 := Aside0.mk (below_alloc (below_step HB3.out hb) (.cells #[.int .i64 14142135623731, .int .i64 (-13)] 29 (0, 0)))
  clear hb X3 Y3 Z3 HB3
  have x0 := (blk_cell X4 0).trans rfl; have x1 := (blk_cell X4 1).trans rfl
  have y0 := (blk_cell Y4 0).trans rfl; have y1 := (blk_cell Y4 1).trans rfl
  have z0 := (blk_cell Z4 0).trans rfl; have z1 := (blk_cell Z4 1).trans rfl
  have u0 := (blk_cell U4 0).trans rfl; have u1 := (blk_cell U4 1).trans rfl
  clear X4 Y4 Z4 U4
  go_wp2
  go_ret
  exact ⟨rfl, HB4.out⟩
theorem sign_calls (a : Int) (w : World) : Calls Try.prog 67 #[.int .i64 a] w fun e w' => e = .returned (.int .i64 (sg a)) ∧ w' = w := by
  unfold sg
  by_cases h1 : a < 0
  · rw [if_pos h1]
    go_enter Try.func67, Try.ntmps67
    go_wp2
    go_ret
    exact ⟨rfl, rfl⟩
  · rw [if_neg h1]
    have h1' : decide (a < 0) = false := decide_eq_false h1
    by_cases h2 : a > 0
    · rw [if_pos h2]
      go_enter Try.func67, Try.ntmps67
      go_wp2
      go_ret
      exact ⟨rfl, rfl⟩
    · rw [if_neg h2]
      have h2' : decide (0 < a) = false := decide_eq_false h2
      go_enter Try.func67, Try.ntmps67
      go_wp2
      go_ret
      exact ⟨rfl, rfl⟩
theorem sign_is {a S : Int} (h : sg a = S) (w : World) : Calls Try.prog 67 #[.int .i64 a] w fun e w' => e = .returned (.int .i64 S) ∧ w' = w := h ▸ sign_calls a w
theorem blk_new1 (w : World) (o o' : Obj) : ((w.alloc o).alloc o').heap[w.heap.size + 1]? = some o' := by simpa using blk_new (w.alloc o) o'
/-- the boxes of Compare: its two numbers -/
structure CmpX (w w' : World) (X Y : Array Value) : Prop where
  x : w'.heap[w.heap.size]? = some (.cells X 29 (0, 0))
  y : w'.heap[w.heap.size + 1]? = some (.cells Y 29 (0, 0))
  s : Below w.heap.size w w'
theorem CmpX.next {w w' w2 : World} {X Y : Array Value} (h : CmpX w w' X Y) (hb : Below w'.heap.size w' w2) : CmpX w w2 X Y := ⟨blk_below h.x hb, blk_below h.y hb, below_step h.s hb⟩
theorem CmpX.drew {w w' : World} {X Y : Array Value} (h : CmpX w w' X Y) : CmpX w w'.drew X Y := ⟨h.x, h.y, below_drew1 h.s⟩
theorem CmpX.drewN {w w' : World} {X Y : Array Value} (h : CmpX w w' X Y) (n : Nat) : CmpX w (w'.drewN n) X Y := ⟨h.x, h.y, pw_below_drewN h.s n⟩
theorem CmpX.alloc {w w' : World} {X Y : Array Value} (h : CmpX w w' X Y) (o : Obj) : CmpX w (w'.alloc o) X Y := ⟨blk_alloc h.x _, blk_alloc h.y _, below_alloc h.s _⟩
theorem CmpX.far {w w' : World} {X Y : Array Value} {g : Nat} (h : CmpX w w' X Y) (hl : w.heap.size + 1 < g) (i : Nat) (v : Value) : CmpX w (w'.setCell ⟨g, i, none⟩ v) X Y :=
  ⟨blk_far h.x (by simp; omega) _, blk_far h.y (by simp; omega) _, below_set h.s (by omega)⟩
theorem cmp_s {w w' : World} {m e n f : Int} (h : CmpX w w' #[.int .i64 m, .int .i64 e] #[.int .i64 n, .int .i64 f]) : (w'.cell? ⟨w.heap.size, 0, none⟩ = some (.int .i64 m) ∧ w'.cell? ⟨w.heap.size, 1, none⟩ = some (.int .i64 e) ∧ w'.cell? ⟨w.heap.size + 1, 0, none⟩ = some (.int .i64 n) ∧ w'.cell? ⟨w.heap.size + 1, 1, none⟩ = some (.int .i64 f)) ∧ Aside0 (CmpX w w' #[.int .i64 m, .int .i64 e] #[.int .i64 n, .int .i64 f]) :=
  ⟨⟨(blk_cell h.x 0).trans rfl, (blk_cell h.x 1).trans rfl, (blk_cell h.y 0).trans rfl, (blk_cell h.y 1).trans rfl⟩, ⟨h⟩⟩
theorem cmp_new (w : World) (X Y : Array Value) : CmpX w ((w.alloc (.cells X 29)).alloc (.cells Y 29)) X Y :=
  ⟨blk_alloc (blk_new w _) _, by have h := blk_new (w.alloc (.cells X 29)) (.cells Y 29); simpa using h, below_alloc (below_alloc (Below.refl _ _) _) _⟩
/-- beside them those of the magnitudes -/
structure CmpW (w w' : World) (X Y A B : Array Value) (ga gb : Nat) : Prop where
  c : CmpX w w' X Y
  a : w'.heap[ga]? = some (.cells A 55 (0, 0))
  b : w'.heap[gb]? = some (.cells B 55 (0, 0))
  n : ga ≠ gb
  n0 : w.heap.size + 1 < ga
  n1 : w.heap.size + 1 < gb
def CmpP (w w' : World) (X Y A B : Array Value) (s7 s8 : Value) : Prop := ∃ ga gb, s7 = .pointer (some ⟨ga, 0, none⟩) ∧ s8 = .pointer (some ⟨gb, 0, none⟩) ∧ CmpW w w' X Y A B ga gb
theorem cmp_cells {w w' : World} {ga gb : Nat} {m e n f u v : Int} (h : CmpW w w' #[.int .i64 m, .int .i64 e] #[.int .i64 n, .int .i64 f] #[.int .u64 0, .int .u64 u] #[.int .u64 0, .int .u64 v] ga gb) : w'.cell? ⟨w.heap.size, 0, none⟩ = some (.int .i64 m) ∧ w'.cell? ⟨w.heap.size, 1, none⟩ = some (.int .i64 e) ∧ w'.cell? ⟨w.heap.size + 1, 0, none⟩ = some (.int .i64 n) ∧ w'.cell? ⟨w.heap.size + 1, 1, none⟩ = some (.int .i64 f) ∧
    w'.frozen? ⟨w.heap.size, 0, none⟩ = false ∧ w'.frozen? ⟨w.heap.size, 1, none⟩ = false ∧ w'.frozen? ⟨w.heap.size + 1, 0, none⟩ = false ∧ w'.frozen? ⟨w.heap.size + 1, 1, none⟩ = false ∧ w'.cell? ⟨ga, 0, none⟩ = some (.int .u64 0) ∧ w'.cell? ⟨ga, 1, none⟩ = some (.int .u64 u) ∧ w'.cell? ⟨gb, 0, none⟩ = some (.int .u64 0) ∧ w'.cell? ⟨gb, 1, none⟩ = some (.int .u64 v) ∧ w'.frozen? ⟨ga, 0, none⟩ = false ∧ w'.frozen? ⟨ga, 1, none⟩ = false ∧ w'.frozen? ⟨gb, 0, none⟩ = false ∧ w'.frozen? ⟨gb, 1, none⟩ = false :=
  ⟨(blk_cell h.c.x 0).trans rfl, (blk_cell h.c.x 1).trans rfl, (blk_cell h.c.y 0).trans rfl, (blk_cell h.c.y 1).trans rfl, blk_frozen h.c.x 0, blk_frozen h.c.x 1, blk_frozen h.c.y 0, blk_frozen h.c.y 1, (blk_cell h.a 0).trans rfl, (blk_cell h.a 1).trans rfl, (blk_cell h.b 0).trans rfl, (blk_cell h.b 1).trans rfl, blk_frozen h.a 0, blk_frozen h.a 1, blk_frozen h.b 0, blk_frozen h.b 1⟩
theorem CmpW.next {w w' w2 : World} {X Y A B : Array Value} {ga gb : Nat} (h : CmpW w w' X Y A B ga gb) (hb : Below w'.heap.size w' w2) : CmpW w w2 X Y A B ga gb := ⟨h.c.next hb, blk_below h.a hb, blk_below h.b hb, h.n, h.n0, h.n1⟩
theorem CmpW.drew {w w' : World} {X Y A B : Array Value} {ga gb : Nat} (h : CmpW w w' X Y A B ga gb) : CmpW w w'.drew X Y A B ga gb := ⟨h.c.drew, h.a, h.b, h.n, h.n0, h.n1⟩
theorem cmp_t {w w' : World} {ga gb : Nat} {m e n f u v : Int} (h : CmpW w w' #[.int .i64 m, .int .i64 e] #[.int .i64 n, .int .i64 f] #[.int .u64 0, .int .u64 u] #[.int .u64 0, .int .u64 v] ga gb) : (w'.cell? ⟨ga, 0, none⟩ = some (.int .u64 0) ∧ w'.cell? ⟨ga, 1, none⟩ = some (.int .u64 u) ∧ w'.cell? ⟨gb, 0, none⟩ = some (.int .u64 0) ∧ w'.cell? ⟨gb, 1, none⟩ = some (.int .u64 v) ∧ w'.cell? ⟨w.heap.size, 1, none⟩ = some (.int .i64 e) ∧ w'.cell? ⟨w.heap.size + 1, 1, none⟩ = some (.int .i64 f)) ∧ Aside0 (CmpW w w' #[.int .i64 m, .int .i64 e] #[.int .i64 n, .int .i64 f] #[.int .u64 0, .int .u64 u] #[.int .u64 0, .int .u64 v] ga gb) := by
  obtain ⟨x0, x1, y0, y1, _, _, _, _, a0, a1, b0, b1, _⟩ := cmp_cells h
  exact ⟨⟨a0, a1, b0, b1, x1, y1⟩, ⟨h⟩⟩
theorem cmp_e1 {w w2 : World} {X Y A B : Array Value} (h : CmpX w w2 X Y) : CmpP w ((w2.alloc (.cells A 55)).alloc (.cells B 55)) X Y A B (.pointer (some ⟨w2.heap.size, 0, none⟩)) (.pointer (some ⟨w2.heap.size + 1, 0, none⟩)) := by
  have := blk_lt h.y
  exact ⟨_, _, rfl, rfl, (h.alloc _).alloc _, blk_alloc (blk_new _ _) _, blk_new1 _ _ _, by omega, by omega, by omega⟩
theorem cmp_f1 {w w2 : World} {X Y A B : Array Value} (h : CmpX w w2 X Y) : CmpP w ((w2.alloc (.cells B 55)).alloc (.cells A 55)) X Y A B (.pointer (some ⟨w2.heap.size + 1, 0, none⟩)) (.pointer (some ⟨w2.heap.size, 0, none⟩)) := by
  have := blk_lt h.y
  exact ⟨_, _, rfl, rfl, (h.alloc _).alloc _, blk_new1 _ _ _, blk_alloc (blk_new _ _) _, by omega, by omega, by omega⟩
theorem put2 {w : World} {g : Nat} {a b a' b' : Value} {t : TypeId} (h : w.heap[g]? = some (.cells #[a, b] t (0, 0))) : ((w.setCell ⟨g, 0, none⟩ a').setCell ⟨g, 1, none⟩ b').heap[g]? = some (.cells #[a', b'] t (0, 0)) := blk_put (blk_put h 0 _ rfl) 1 _ rfl
theorem far2 {w : World} {g g' : Nat} {cs : Array Value} {a b : Value} {t : TypeId} (h : w.heap[g]? = some (.cells cs t (0, 0))) (hn : g ≠ g') : ((w.setCell ⟨g', 0, none⟩ a).setCell ⟨g', 1, none⟩ b).heap[g]? = some (.cells cs t (0, 0)) := blk_far (blk_far h hn _) hn _
theorem size2 (w : World) (g : Nat) (a b : Value) : ((w.setCell ⟨g, 0, none⟩ a).setCell ⟨g, 1, none⟩ b).heap.size = w.heap.size := by simp
theorem cmp_swap {w w' : World} {ga gb : Nat} {x0 x1 y0 y1 a0 a1 b0 b1 : Value} {X0 X1 Y0 Y1 A0 A1 B0 B1 : Value} (h : CmpW w w' #[x0, x1] #[y0, y1] #[a0, a1] #[b0, b1] ga gb) : CmpW w ((((((((w'.setCell ⟨w.heap.size, 0, none⟩ X0).setCell ⟨w.heap.size, 1, none⟩ X1).setCell ⟨w.heap.size + 1, 0, none⟩ Y0).setCell ⟨w.heap.size + 1, 1, none⟩ Y1).setCell ⟨ga, 0, none⟩ A0).setCell ⟨ga, 1, none⟩ A1).setCell ⟨gb, 0, none⟩ B0).setCell ⟨gb, 1, none⟩ B1).drew #[X0, X1] #[Y0, Y1] #[A0, A1] #[B0, B1] ga gb := by
  have n0 := h.n0; have n1 := h.n1
  refine ⟨⟨?_, ?_, ?_⟩, ?_, ?_, h.n, h.n0, h.n1⟩
  · exact blk_drew (far2 (far2 (far2 (put2 h.c.x) (by omega)) (by omega)) (by omega))
  · exact blk_drew (far2 (far2 (put2 (far2 h.c.y (by omega))) (by omega)) (by omega))
  · exact below_drew1 (below_set (below_set (below_set (below_set (below_set (below_set (below_set (below_set h.c.s (by omega)) (by omega)) (by omega)) (by omega)) (by omega)) (by omega)) (by omega)) (by omega))
  · exact blk_drew (far2 (put2 (far2 (far2 h.a (by omega)) (by omega))) h.n)
  · exact blk_drew (put2 (far2 (far2 (far2 h.b (by omega)) (by omega)) (Ne.symm h.n)))
theorem cmp_e2 {w w2 : World} {X Y : Array Value} {g : Nat} {a' b' c d : Value} (h : CmpX w w2 X Y) (hg : w2.heap[g]? = some (.cells #[.int .u64 0, .int .u64 0] 55 (0, 0))) (hl : w.heap.size + 1 < g) : CmpP w (((w2.setCell ⟨g, 0, none⟩ a').setCell ⟨g, 1, none⟩ b').alloc (.cells #[c, d] 55)) X Y #[a', b'] #[c, d] (.pointer (some ⟨g, 0, none⟩)) (.pointer (some ⟨w2.heap.size, 0, none⟩)) := by
  have := blk_lt h.y; have := blk_lt hg
  have hn := blk_new ((w2.setCell ⟨g, 0, none⟩ a').setCell ⟨g, 1, none⟩ b') (.cells #[c, d] 55)
  rw [size2] at hn
  exact ⟨_, _, rfl, rfl, ((h.far hl _ _).far hl _ _).alloc _, blk_alloc (put2 hg) _, hn, by omega, by omega, by omega⟩
theorem cmp_f2 {w w2 : World} {X Y : Array Value} {g : Nat} {a' b' c d : Value} (h : CmpX w w2 X Y) (hg : w2.heap[g]? = some (.cells #[.int .u64 0, .int .u64 0] 55 (0, 0))) (hl : w.heap.size + 1 < g) : CmpP w (((w2.setCell ⟨g, 0, none⟩ a').setCell ⟨g, 1, none⟩ b').alloc (.cells #[c, d] 55)) X Y #[c, d] #[a', b'] (.pointer (some ⟨w2.heap.size, 0, none⟩)) (.pointer (some ⟨g, 0, none⟩)) := by
  have := blk_lt h.y; have := blk_lt hg
  have hn := blk_new ((w2.setCell ⟨g, 0, none⟩ a').setCell ⟨g, 1, none⟩ b') (.cells #[c, d] 55)
  rw [size2] at hn
  exact ⟨_, _, rfl, rfl, ((h.far hl _ _).far hl _ _).alloc _, hn, blk_alloc (put2 hg) _, by omega, by omega, by omega⟩
theorem cmp_e3 {w w2 : World} {X Y : Array Value} {g k : Nat} {a' b' c' d' : Value} (h : CmpX w w2 X Y) (hg : w2.heap[g]? = some (.cells #[.int .u64 0, .int .u64 0] 55 (0, 0))) (hk : w2.heap[k]? = some (.cells #[.int .u64 0, .int .u64 0] 55 (0, 0))) (hl : w.heap.size + 1 < g) (hl2 : w.heap.size + 1 < k) (hn : g ≠ k) : CmpP w ((((w2.setCell ⟨g, 0, none⟩ a').setCell ⟨g, 1, none⟩ b').setCell ⟨k, 0, none⟩ c').setCell ⟨k, 1, none⟩ d') X Y #[a', b'] #[c', d'] (.pointer (some ⟨g, 0, none⟩)) (.pointer (some ⟨k, 0, none⟩)) :=
  ⟨_, _, rfl, rfl, (((h.far hl _ _).far hl _ _).far hl2 _ _).far hl2 _ _, far2 (put2 hg) hn, put2 (far2 hk (Ne.symm hn)), hn, hl, hl2⟩
set_option maxHeartbeats 8000000 in
set_option maxRecDepth 100000 in
theorem compare_main (m e n f S : Int) (w : World) (hm1 : ∀ w, Calls Try.prog 67 #[.int .i64 m] w fun e w' => e = .returned (.int .i64 S) ∧ w' = w) (hn1 : ∀ w, Calls Try.prog 67 #[.int .i64 n] w fun e w' => e = .returned (.int .i64 S) ∧ w' = w) (hz : S = 1 ∨ S = -1) (he : I64 e) (hf : I64 f) (u v : Int) (hmu : Ret 46 #[.int .i64 m] (.agg #[.int .u64 0, .int .u64 u])) (hnv : Ret 46 #[.int .i64 n] (.agg #[.int .u64 0, .int .u64 v])) (r : Int)
    (m' e' n' f' u' v' t c C0 C1 P : Int) (k : Nat) (hP : P = 1 ∨ P = -1) (hP2 : IntKind.i64.wrap (S * t) = P) (hy : e < f → m' = n ∧ e' = f ∧ n' = m ∧ f' = e ∧ u' = v ∧ v' = u ∧ t = -1) (hno : ¬ e < f → m' = m ∧ e' = e ∧ n' = n ∧ f' = f ∧ u' = u ∧ v' = v ∧ t = 1)
    (hfar : 19 < e' - f' → r = P) (hnear : ¬ 19 < e' - f' → reals_wide_scaled.f k 0 u' (e' - f') = some (C0, C1) ∧ reals_wide_compare.f C0 C1 0 v' = some c ∧ (c = -1 ∨ c = 0 ∨ c = 1) ∧ r = P * c) :
    Calls Try.prog 35 #[.agg #[.int .i64 m, .int .i64 e], .agg #[.int .i64 n, .int .i64 f]] w fun en w' => en = .returned (.int .i64 r) ∧ Below w.heap.size w w' := by
  have hu := Try.underlying29
  have hu2 := Try.underlying55
  have t2 : (S == 0) = false := by rw [beq_eq_false_iff_ne]; omega
  have t3 : -1 ≤ S ∧ S ≤ 1 := by omega
  have HZ := Aside0.mk hz
  have HU := Aside0.mk hmu; have HV := Aside0.mk hnv; have HE := Aside0.mk he; have HF := Aside0.mk hf
  have HM1 := Aside0.mk hm1; have HN1 := Aside0.mk hn1
  have HPP := Aside0.mk hP; have HP2 := Aside0.mk hP2; have HY := Aside0.mk hy; have HNO := Aside0.mk hno; have HFAR := Aside0.mk hfar; have HNEAR := Aside0.mk hnear
  clear hmu hnv he hf hz hm1 hn1 hP hP2 hy hno hfar hnear
  go_enter Try.func35, Try.ntmps35
  go_wp2_with fail
  go_quiet ((first | (go_at_call 67; exact Calls.quiet_of_same (HM1.out _)) | (go_at_call 67; exact Calls.quiet_of_same (HN1.out _))))
  go_upto_region 8 with fail
  go_cut [7, 8] (fun s7 s8 wx => CmpP w wx #[.int .i64 m, .int .i64 e] #[.int .i64 n, .int .i64 f] #[.int .u64 0, .int .u64 u] #[.int .u64 0, .int .u64 v] s7 s8)
  case first =>
    have HW0 := Aside0.mk ((cmp_new w #[.int .i64 m, .int .i64 e] #[.int .i64 n, .int .i64 f]).drewN nq)
    generalize (((w.alloc (.cells #[.int .i64 m, .int .i64 e] 29)).alloc (.cells #[.int .i64 n, .int .i64 f] 29)).drewN nq) = w0 at HW0 ⊢
    have hg0 := Aside0.mk (blk_lt HW0.out.y)
    go_region_held3 (fun w' => (w'.cell? ⟨w.heap.size, 0, none⟩ = some (.int .i64 m) ∧ w'.cell? ⟨w.heap.size, 1, none⟩ = some (.int .i64 e) ∧ w'.cell? ⟨w.heap.size + 1, 0, none⟩ = some (.int .i64 n) ∧ w'.cell? ⟨w.heap.size + 1, 1, none⟩ = some (.int .i64 f)) ∧ Aside0 (CmpX w w' #[.int .i64 m, .int .i64 e] #[.int .i64 n, .int .i64 f])) (((try go_split_ands); (refine cmp_s ?_); (repeat (first | (refine Aside0.out ?_; assumption) | refine CmpX.next ?_ hb1 | refine CmpX.next ?_ hb2 | refine CmpX.drew ?_ | refine CmpX.alloc ?_ _ | refine CmpX.far ?_ (by first | exact hg0.out | exact hg1.out | exact hg2.out | exact Nat.lt_succ_of_lt hg0.out | exact Nat.lt_succ_of_lt hg1.out | exact Nat.lt_succ_of_lt hg2.out) _ _)))) (first | (go_at_call 46; (with_reducible refine (at_w HU _).mono ?_); rintro e1 w1 ⟨rfl, hb1⟩; have HW1 : Aside0 (CmpX w w1 #[.int .i64 m, .int .i64 e] #[.int .i64 n, .int .i64 f]) := ⟨by repeat (first | (refine Aside0.out ?_; assumption) | refine CmpX.next ?_ hb1 | refine CmpX.drew ?_ | refine CmpX.alloc ?_ _)⟩; have hg1 := Aside0.mk (blk_lt HW1.out.y); (try have BA := Aside0.mk (blk_below (blk_new _ _) hb1)); (try have BA := Aside0.mk (blk_below (blk_drew (blk_new _ _)) hb1)); (try have BA := Aside0.mk (blk_below (blk_new1 _ _ _) hb1)); (try have BA := Aside0.mk (blk_below (blk_drew (blk_new1 _ _ _)) hb1)); (try have BB := Aside0.mk (blk_below (blk_alloc (blk_new _ _) _) hb1)); (try have BB := Aside0.mk (blk_below (blk_drew (blk_alloc (blk_new _ _) _)) hb1)); (try have la1 := blk_lt BA.out); (try have na1 := Nat.ne_of_gt (blk_lt BA.out)); (try have lb1 := blk_lt BB.out); (try have nb1 := Nat.ne_of_gt (blk_lt BB.out))) | (go_at_call 46; (with_reducible refine (at_w HV _).mono ?_); rintro e1 w2 ⟨rfl, hb2⟩; have HW2 : Aside0 (CmpX w w2 #[.int .i64 m, .int .i64 e] #[.int .i64 n, .int .i64 f]) := ⟨by repeat (first | (refine Aside0.out ?_; assumption) | refine CmpX.next ?_ hb2 | refine CmpX.next ?_ hb1 | refine CmpX.drew ?_ | refine CmpX.alloc ?_ _)⟩; have hg2 := Aside0.mk (blk_lt HW2.out.y); (try have BC := Aside0.mk (blk_below (blk_new _ _) hb2)); (try have BC := Aside0.mk (blk_below (blk_new1 _ _ _) hb2)); (try have BD := Aside0.mk (blk_below (blk_alloc (blk_new _ _) _) hb2)); (try have BE := Aside0.mk (blk_below BA.out hb2)); (try have BE := Aside0.mk (blk_below (blk_alloc BA.out _) hb2)); (try have BF := Aside0.mk (blk_below BB.out hb2)); (try have ca0 := (blk_cell BC.out 0).trans rfl); (try have ca1 := (blk_cell BC.out 1).trans rfl); (try have fa0 := blk_frozen BC.out 0); (try have fa1 := blk_frozen BC.out 1); (try have la := blk_lt BC.out); (try have cb0 := (blk_cell BD.out 0).trans rfl); (try have cb1 := (blk_cell BD.out 1).trans rfl); (try have fb0 := blk_frozen BD.out 0); (try have fb1 := blk_frozen BD.out 1); (try have lb := blk_lt BD.out); (try have cc0 := (blk_cell BE.out 0).trans rfl); (try have cc1 := (blk_cell BE.out 1).trans rfl); (try have fc0 := blk_frozen BE.out 0); (try have fc1 := blk_frozen BE.out 1); (try have lc := blk_lt BE.out); (try have cd0 := (blk_cell BF.out 0).trans rfl); (try have cd1 := (blk_cell BF.out 1).trans rfl); (try have fd0 := blk_frozen BF.out 0); (try have fd1 := blk_frozen BF.out 1); (try have ld := blk_lt BF.out)))
    all_goals (go_wp2_with fail; go_meet)
    all_goals (have h0 := hg0.out; have h1 := hg1.out; have h2 := hg2.out; have q1 := below_size hb1; have q2 := below_size hb2; (try simp at q1); (try simp at q2))
    all_goals (first | (with_reducible exact cmp_e1 HW2.out) | (with_reducible exact cmp_f1 HW2.out) | ((with_reducible refine cmp_e2 HW2.out ?_ ?_) <;> first | omega | exact BC.out | exact BD.out | exact BE.out | exact BF.out) | ((with_reducible refine cmp_f2 HW2.out ?_ ?_) <;> first | omega | exact BC.out | exact BD.out | exact BE.out | exact BF.out) | ((with_reducible refine cmp_e3 HW2.out ?_ ?_ ?_ ?_ ?_) <;> first | omega | exact BC.out | exact BD.out | exact BE.out | exact BF.out))
  case rest =>
    obtain ⟨ga, gb, rfl, rfl, HW⟩ := hcut
    have he := HE.out; have hf := HF.out
    unfold I64 at he hf
    have n0 := HW.n; have n1 := Ne.symm HW.n; have n2 := Nat.ne_of_gt HW.n0; have n3 := Nat.ne_of_gt HW.n1
    have m0 := HW.n0; have m1 := HW.n1
    have HW0 := Aside0.mk HW
    obtain ⟨x0, x1, y0, y1, fx0, fx1, fy0, fy1, a0, a1, b0, b1, fa0, fa1, fb0, fb1⟩ := cmp_cells HW
    clear HW HE HF HU HV HM1 HN1
    go_upto_if 38 with fail
    go_cut [9] (fun s9 wx => s9 = .int .i64 t ∧ Aside0 (CmpW w wx #[.int .i64 m', .int .i64 e'] #[.int .i64 n', .int .i64 f'] #[.int .u64 0, .int .u64 u'] #[.int .u64 0, .int .u64 v'] ga gb))
    case first =>
      by_cases hef : e < f
      · obtain ⟨rfl, rfl, rfl, rfl, rfl, rfl, rfl⟩ := HY.out (by omega)
        go_wp2_with fail
        go_region
        all_goals (go_wp2_with fail; go_meet)
        all_goals exact ⟨rfl, ⟨cmp_swap HW0.out⟩⟩
      · obtain ⟨rfl, rfl, rfl, rfl, rfl, rfl, rfl⟩ := HNO.out (by omega)
        have hef' : decide (e' < f') = false := decide_eq_false hef
        go_wp2_with fail
        go_meet
        exact ⟨rfl, HW0⟩
    case rest =>
      obtain ⟨rfl, HW⟩ := hcut
      clear x0 x1 y0 y1 fx0 fx1 fy0 fy1 a0 a1 b0 b1 fa0 fa1 fb0 fb1
      obtain ⟨x0, x1, y0, y1, fx0, fx1, fy0, fy1, a0, a1, b0, b1, fa0, fa1, fb0, fb1⟩ := cmp_cells HW.out
      have hle : f' ≤ e' := by
        by_cases h : e < f
        · have := HY.out (by omega); omega
        · have := HNO.out (by omega); omega
      have hbd : -9223372036854775808 ≤ f' ∧ e' ≤ 9223372036854775807 := by
        by_cases h : e < f
        · have := HY.out (by omega); omega
        · have := HNO.out (by omega); omega
      have hw : IntKind.u64.wrap (IntKind.u64.wrap e' - IntKind.u64.wrap f') = e' - f' := by simp [IntKind.wrap, IntKind.signed, IntKind.bits]; omega
      clear HY HNO he hf
      have hP2 := HP2.out
      by_cases hd : 19 < e' - f'
      · have hr := HFAR.out hd
        subst hr
        go_wp2_with fail
        go_ret
        exact ⟨rfl, HW.out.c.s⟩
      · obtain ⟨hsc, hcp, hc, hr⟩ := HNEAR.out (by omega)
        have hPP := HPP.out
        have hr2 : IntKind.i64.wrap (P * c) = r := by rw [hr]; rcases hPP with rfl | rfl <;> rcases hc with rfl | rfl | rfl <;> rfl
        have HSC := Aside0.mk hsc; have HCP := Aside0.mk hcp; have HR := Aside0.mk hr2
        have hs : IntKind.i64.wrap (e' - f') = e' - f' := IntWalk.i64_in _ (by omega)
        have hd' : decide (19 < e' - f') = false := decide_eq_false hd
        clear hsc hcp hc hr hPP
        go_upto_region 15 with fail
        go_region_held3 (fun w' => (w'.cell? ⟨ga, 0, none⟩ = some (.int .u64 0) ∧ w'.cell? ⟨ga, 1, none⟩ = some (.int .u64 u') ∧ w'.cell? ⟨gb, 0, none⟩ = some (.int .u64 0) ∧ w'.cell? ⟨gb, 1, none⟩ = some (.int .u64 v') ∧ w'.cell? ⟨w.heap.size, 1, none⟩ = some (.int .i64 e') ∧ w'.cell? ⟨w.heap.size + 1, 1, none⟩ = some (.int .i64 f')) ∧ Aside0 (CmpW w w' #[.int .i64 m', .int .i64 e'] #[.int .i64 n', .int .i64 f'] #[.int .u64 0, .int .u64 u'] #[.int .u64 0, .int .u64 v'] ga gb)) (((try go_split_ands); (refine cmp_t ?_); (repeat (first | (refine Aside0.out ?_; assumption) | refine CmpW.next ?_ hb1 | refine CmpW.next ?_ hb2 | refine CmpW.drew ?_)))) (first | (go_at_call 60; (with_reducible refine (reals_wide_scaled.calls k 0 u' (e' - f') C0 C1 _ HSC.out).mono ?_); rintro e1 w1 ⟨rfl, hb1⟩; have HW1 := Aside0.mk ((CmpW.drew HW.out).next hb1)) | (go_at_call 68; (with_reducible refine (reals_wide_compare.calls C0 C1 0 v' c _ HCP.out).mono ?_); rintro e1 w2 ⟨rfl, hb2⟩; have HW2 := Aside0.mk (HW1.out.next hb2)))
        all_goals go_wp2
        all_goals go_ret
        all_goals exact ⟨rfl, HW2.out.c.s⟩
theorem sgn_P {S T : Int} (h : S = 1 ∨ S = -1) (h2 : T = 1 ∨ T = -1) : (S * T = 1 ∨ S * T = -1) ∧ IntKind.i64.wrap (S * T) = S * T := by
  rcases h with rfl | rfl <;> rcases h2 with rfl | rfl <;> exact ⟨by decide, rfl⟩
theorem c3_bd (a b : Nat) : c3 a b = -1 ∨ c3 a b = 0 ∨ c3 a b = 1 := by unfold c3; split <;> (try split) <;> simp
/-- what the far end of Compare asks -/
theorem cmp_near {m' n' e' f' : Int} (hm : I64 m') (hn : I64 n') (hle : f' ≤ e') (h : ¬ 19 < e' - f') : ∃ C0 C1, reals_wide_scaled.f 40 0 (m'.natAbs : Int) (e' - f') = some (C0, C1) ∧ reals_wide_compare.f C0 C1 0 (n'.natAbs : Int) = some (c3 (m'.natAbs * 10 ^ (e' - f').toNat) n'.natAbs) := by
  unfold I64 at hm hn
  have h1 := hl_small (n := m'.natAbs) (by omega)
  have h2 := hl_small (n := n'.natAbs) (by omega)
  have hp : 10 ^ (e' - f').toNat ≤ 10 ^ 19 := Nat.pow_le_pow_right (by decide) (by omega)
  have hlt : m'.natAbs * 10 ^ (e' - f').toNat < 340282366920938463463374607431768211456 := by
    have h3 : m'.natAbs * 10 ^ (e' - f').toNat ≤ 9223372036854775808 * 10 ^ 19 := Nat.mul_le_mul (by omega) hp
    have h4 : 9223372036854775808 * 10 ^ 19 < 340282366920938463463374607431768211456 := by decide
    exact Nat.lt_of_le_of_lt h3 h4
  refine ⟨hiw (m'.natAbs * 10 ^ (e' - f').toNat), low (m'.natAbs * 10 ^ (e' - f').toNat), ?_, ?_⟩
  · have h5 := scaled_is (n := m'.natAbs) (d := (e' - f').toNat) (by omega) hlt 40 (by omega)
    rw [h1.1, h1.2, show (((e' - f').toNat : Nat) : Int) = e' - f' by omega] at h5; exact h5
  · have h6 := cmp_is (m'.natAbs * 10 ^ (e' - f').toNat) n'.natAbs
    rw [h2.1, h2.2] at h6; exact h6
theorem mag_ret {m : Int} (hm : I64 m) : Ret 46 #[.int .i64 m] (.agg #[.int .u64 0, .int .u64 (m.natAbs : Int)]) := by
  unfold I64 at hm
  have h1 := hl_small (n := m.natAbs) (by omega)
  refine ret_b fun w => reals_magnitude.calls m 0 m.natAbs w ?_
  rw [mag_is hm.1 hm.2, h1.1, h1.2]
set_option maxHeartbeats 4000000 in
set_option maxRecDepth 100000 in
theorem compare_early (m e n f S T r : Int) (w : World) (hm1 : ∀ w, Calls Try.prog 67 #[.int .i64 m] w fun e w' => e = .returned (.int .i64 S) ∧ w' = w) (hn1 : ∀ w, Calls Try.prog 67 #[.int .i64 n] w fun e w' => e = .returned (.int .i64 T) ∧ w' = w) (h : S < T ∧ r = -1 ∨ T < S ∧ r = 1 ∨ S = 0 ∧ T = 0 ∧ r = 0) :
    Calls Try.prog 35 #[.agg #[.int .i64 m, .int .i64 e], .agg #[.int .i64 n, .int .i64 f]] w fun en w' => en = .returned (.int .i64 r) ∧ Below w.heap.size w w' := by
  have hu := Try.underlying29
  have HM1 := Aside0.mk hm1; have HN1 := Aside0.mk hn1
  have HB := Aside0.mk (fun k => ((cmp_new w #[.int .i64 m, .int .i64 e] #[.int .i64 n, .int .i64 f]).drewN k).s)
  clear hm1 hn1
  rcases h with ⟨h, rfl⟩ | ⟨h, rfl⟩ | ⟨rfl, rfl, rfl⟩
  · have h1 : decide (S < T) = true := decide_eq_true h
    go_enter Try.func35, Try.ntmps35
    go_wp2_with fail
    go_quiet ((first | (go_at_call 67; exact Calls.quiet_of_same (HM1.out _)) | (go_at_call 67; exact Calls.quiet_of_same (HN1.out _))))
    go_wp2
    go_ret
    exact ⟨rfl, HB.out _⟩
  · have h1 : decide (S < T) = false := decide_eq_false (by omega)
    have h2 : decide (T < S) = true := decide_eq_true h
    go_enter Try.func35, Try.ntmps35
    go_wp2_with fail
    go_quiet ((first | (go_at_call 67; exact Calls.quiet_of_same (HM1.out _)) | (go_at_call 67; exact Calls.quiet_of_same (HN1.out _))))
    go_wp2
    go_ret
    exact ⟨rfl, HB.out _⟩
  · go_enter Try.func35, Try.ntmps35
    go_wp2_with fail
    go_quiet ((first | (go_at_call 67; exact Calls.quiet_of_same (HM1.out _)) | (go_at_call 67; exact Calls.quiet_of_same (HN1.out _))))
    go_wp2
    go_ret
    exact ⟨rfl, HB.out _⟩
theorem compare_ret (m e n f : Int) (hm : I64 m) (hn : I64 n) (he : I64 e) (hf : I64 f) : Ret 35 #[.agg #[.int .i64 m, .int .i64 e], .agg #[.int .i64 n, .int .i64 f]] (.int .i64 (cmpS m e n f)) := by
  intro w
  have s1 := sg3 m; have s2 := sg3 n
  by_cases h1 : sg m < sg n
  · exact compare_early m e n f (sg m) (sg n) _ w (sign_calls m) (sign_calls n) (.inl ⟨h1, by unfold cmpS; rw [if_pos h1]⟩)
  by_cases h2 : sg m > sg n
  · exact compare_early m e n f (sg m) (sg n) _ w (sign_calls m) (sign_calls n) (.inr (.inl ⟨h2, by unfold cmpS; rw [if_neg h1, if_pos h2]⟩))
  by_cases h3 : m = 0
  · exact compare_early m e n f (sg m) (sg n) _ w (sign_calls m) (sign_calls n) (.inr (.inr ⟨by omega, by omega, by unfold cmpS; rw [if_neg h1, if_neg h2, if_pos h3]⟩))
  have hS : sg m = 1 ∨ sg m = -1 := by omega
  have hr : cmpS m e n f = if e < f then sg m * -1 * cmpA n f m e else sg m * 1 * cmpA m e n f := by unfold cmpS; rw [if_neg h1, if_neg h2, if_neg h3]
  rw [hr]
  by_cases hef : e < f
  · rw [if_pos hef]
    have hP := sgn_P hS (T := -1) (.inr rfl)
    by_cases hd : 19 < f - e
    · refine compare_main m e n f (sg m) w (sign_calls m) (sign_is (by omega)) hS he hf m.natAbs n.natAbs (mag_ret hm) (mag_ret hn) _ n f m e n.natAbs m.natAbs (-1) 0 0 0 _ 40 hP.1 hP.2 (fun _ => ⟨rfl, rfl, rfl, rfl, rfl, rfl, rfl⟩) (fun h => absurd hef h) (fun _ => ?_) (fun h => absurd hd h)
      unfold cmpA; rw [if_pos hd, Int.mul_one]
    · obtain ⟨C0, C1, g1, g2⟩ := cmp_near hn hm (show e ≤ f by omega) hd
      refine compare_main m e n f (sg m) w (sign_calls m) (sign_is (by omega)) hS he hf m.natAbs n.natAbs (mag_ret hm) (mag_ret hn) _ n f m e n.natAbs m.natAbs (-1) _ C0 C1 _ 40 hP.1 hP.2 (fun _ => ⟨rfl, rfl, rfl, rfl, rfl, rfl, rfl⟩) (fun h => absurd hef h) (fun h => absurd h hd) (fun _ => ⟨g1, g2, c3_bd _ _, ?_⟩)
      unfold cmpA; rw [if_neg hd]
  · rw [if_neg hef]
    have hP := sgn_P hS (T := 1) (.inl rfl)
    by_cases hd : 19 < e - f
    · refine compare_main m e n f (sg m) w (sign_calls m) (sign_is (by omega)) hS he hf m.natAbs n.natAbs (mag_ret hm) (mag_ret hn) _ m e n f m.natAbs n.natAbs 1 0 0 0 _ 40 hP.1 hP.2 (fun h => absurd h hef) (fun _ => ⟨rfl, rfl, rfl, rfl, rfl, rfl, rfl⟩) (fun _ => ?_) (fun h => absurd hd h)
      unfold cmpA; rw [if_pos hd, Int.mul_one]
    · obtain ⟨C0, C1, g1, g2⟩ := cmp_near hm hn (show f ≤ e by omega) hd
      refine compare_main m e n f (sg m) w (sign_calls m) (sign_is (by omega)) hS he hf m.natAbs n.natAbs (mag_ret hm) (mag_ret hn) _ m e n f m.natAbs n.natAbs 1 _ C0 C1 _ 40 hP.1 hP.2 (fun h => absurd h hef) (fun _ => ⟨rfl, rfl, rfl, rfl, rfl, rfl, rfl⟩) (fun h => absurd h hd) (fun _ => ⟨g1, g2, c3_bd _ _, ?_⟩)
      unfold cmpA; rw [if_neg hd]
structure Bxs (w wx : World) (bs : List (Nat × Array Value × TypeId)) : Prop where
  h : ∀ p ∈ bs, wx.heap[p.1]? = some (.cells p.2.1 p.2.2 (0, 0))
  b : Below w.heap.size w wx
theorem Bxs.next {w wx w2 : World} {bs : List (Nat × Array Value × TypeId)} (h : Bxs w wx bs) (hb : Below wx.heap.size wx w2) : Bxs w w2 bs := ⟨fun p hp => blk_below (h.h p hp) hb, below_step h.b hb⟩
theorem Bxs.drew {w wx : World} {bs : List (Nat × Array Value × TypeId)} (h : Bxs w wx bs) : Bxs w wx.drew bs := ⟨fun p hp => blk_drew (h.h p hp), below_drew1 h.b⟩
theorem Bxs.drewN {w wx : World} {bs : List (Nat × Array Value × TypeId)} (h : Bxs w wx bs) (n : Nat) : Bxs w (wx.drewN n) bs := ⟨fun p hp => blk_drewN (h.h p hp) n, pw_below_drewN h.b n⟩
theorem Bxs.alloc {w wx : World} {bs : List (Nat × Array Value × TypeId)} (h : Bxs w wx bs) (o : Obj) : Bxs w (wx.alloc o) bs := ⟨fun p hp => blk_alloc (h.h p hp) _, below_alloc h.b _⟩
theorem Bxs.push {w wx : World} {bs : List (Nat × Array Value × TypeId)} (h : Bxs w wx bs) (cs : Array Value) (t : TypeId) : Bxs w (wx.alloc (.cells cs t)) ((wx.heap.size, cs, t) :: bs) := by
  refine ⟨fun p hp => ?_, below_alloc h.b _⟩
  rcases List.mem_cons.1 hp with rfl | hp
  · exact blk_new _ _
  · exact blk_alloc (h.h p hp) _
theorem Bxs.get {w wx : World} {g : Nat} {cs : Array Value} {t : TypeId} {bs : List (Nat × Array Value × TypeId)} (h : Bxs w wx ((g, cs, t) :: bs)) : wx.heap[g]? = some (.cells cs t (0, 0)) := h.h _ (List.mem_cons_self ..)
theorem Bxs.tail {w wx : World} {p : Nat × Array Value × TypeId} {bs : List (Nat × Array Value × TypeId)} (h : Bxs w wx (p :: bs)) : Bxs w wx bs := ⟨fun q hq => h.h q (List.mem_cons_of_mem _ hq), h.b⟩
theorem bxs_nil (w : World) : Bxs w w [] := ⟨fun _ h => (List.not_mem_nil h).elim, Below.refl _ _⟩
theorem c2 {w : World} {g : Nat} {a b : Value} {t : TypeId} (h : w.heap[g]? = some (.cells #[a, b] t (0, 0))) : w.cell? ⟨g, 0, none⟩ = some a ∧ w.cell? ⟨g, 1, none⟩ = some b := ⟨(blk_cell h 0).trans rfl, (blk_cell h 1).trans rfl⟩
theorem Bxs.perm {w wx : World} {l l' : List (Nat × Array Value × TypeId)} (h : Bxs w wx l) (hs : ∀ p ∈ l', p ∈ l) : Bxs w wx l' := ⟨fun p hp => h.h p (hs p hp), h.b⟩
theorem Bxs.put2 {w wx : World} {g : Nat} {a b a' b' : Value} {t : TypeId} {l : List (Nat × Array Value × TypeId)} (h : Bxs w wx ((g, #[a, b], t) :: l)) (hl : ∀ p ∈ l, p.1 ≠ g) (hg : w.heap.size ≤ g) : Bxs w ((wx.setCell ⟨g, 0, none⟩ a').setCell ⟨g, 1, none⟩ b') ((g, #[a', b'], t) :: l) := by
  refine ⟨fun p hp => ?_, below_set (below_set h.b hg) hg⟩
  rcases List.mem_cons.1 hp with rfl | hp
  · exact blk_put (blk_put h.get 0 _ rfl) 1 _ rfl
  · exact blk_far (blk_far (h.tail.h p hp) (hl p hp) _) (hl p hp) _
theorem f2 {w : World} {g : Nat} {a b : Value} {t : TypeId} (h : w.heap[g]? = some (.cells #[a, b] t (0, 0))) : w.frozen? ⟨g, 0, none⟩ = false ∧ w.frozen? ⟨g, 1, none⟩ = false := ⟨blk_frozen h 0, blk_frozen h 1⟩
theorem wf64 {x : Int} (h : (Lit.int .i64 x).wf = true) : I64 x := by
  unfold I64
  simp [Lit.wf, IntKind.min, IntKind.max, IntKind.signed, IntKind.bits] at h; omega
theorem valid_ret {s m e : Int} {b : Bool} (hm : I64 m) (h : (decide (er s = 0) && okB (pd s) m.natAbs e) = b) : Ret 14 #[.int .i64 s, .agg #[.int .i64 m, .int .i64 e]] (.bool b) := by
  obtain ⟨k, hk⟩ := (pvalid_is s m e hm.1 hm.2).rounds
  rw [h] at hk
  exact ret_b fun w => reals_Valid.calls k s m e b w hk
theorem awake_ret : Ret 11 #[] (.bool true) :=
  awake_walk (ret_b fun w => reals_Make.calls 200 0 0 1000 (-3) 1 0 0 w (by decide +kernel)) (ret_b fun w => reals_Div.calls 200 (-1) 1 1 0 3 0 3333334 (-7) 0 w (by decide +kernel))
    (ret_b fun w => reals_Add.calls 200 (-1) 0 9999999 0 5 (-1) 1 7 0 w (by decide +kernel)) (ret_b fun w => reals_Sqrt.calls 200 0 0 2 0 14142135623731 (-13) 0 w (by decide +kernel))
theorem ok_I64 {p n : Nat} {m e : Int} (h : Ok p n e) (hp : p ≤ 18) (hm : m.natAbs = n) : I64 m ∧ I64 e := by
  have := ok_bd h hp
  exact ⟨⟨by omega, by omega⟩, ⟨by omega, by omega⟩⟩
def brA (M0 E0 M1 E1 M2 E2 M3 E3 : Int) : Nat → Array Value
  | 0 => #[.int .i64 0, .int .i64 0, .int .i64 0, .int .i64 0, .int .i64 0, .int .i64 0, .int .i64 0, .int .i64 0]
  | 1 => #[.int .i64 M0, .int .i64 E0, .int .i64 0, .int .i64 0, .int .i64 0, .int .i64 0, .int .i64 0, .int .i64 0]
  | 2 => #[.int .i64 M0, .int .i64 E0, .int .i64 M1, .int .i64 E1, .int .i64 0, .int .i64 0, .int .i64 0, .int .i64 0]
  | 3 => #[.int .i64 M0, .int .i64 E0, .int .i64 M1, .int .i64 E1, .int .i64 M2, .int .i64 E2, .int .i64 0, .int .i64 0]
  | _ => #[.int .i64 M0, .int .i64 E0, .int .i64 M1, .int .i64 E1, .int .i64 M2, .int .i64 E2, .int .i64 M3, .int .i64 E3]
def brC (c0 c1 c2 c3 : Int) (i : Nat) : Prop := (0 < i → c0 = 0) ∧ (1 < i → c1 = 0) ∧ (2 < i → c2 = 0) ∧ (3 < i → c3 = 0)
def brI (i : Nat) (v : Value) : Prop := i = 0 ∧ v = .int .i64 0 ∨ i = 1 ∧ v = .int .i64 1 ∨ i = 2 ∧ v = .int .i64 2 ∨ i = 3 ∧ v = .int .i64 3 ∨ i = 4 ∧ v = .int .i64 4
theorem c5 {w : World} {g : Nat} {a b c d e : Value} {t : TypeId} (h : w.heap[g]? = some (.cells #[a, b, c, d, e] t (0, 0))) : w.cell? ⟨g, 0, none⟩ = some a ∧ w.cell? ⟨g, 1, none⟩ = some b ∧ w.cell? ⟨g, 2, none⟩ = some c ∧ w.cell? ⟨g, 3, none⟩ = some d ∧ w.cell? ⟨g, 4, none⟩ = some e :=
  ⟨(blk_cell h 0).trans rfl, (blk_cell h 1).trans rfl, (blk_cell h 2).trans rfl, (blk_cell h 3).trans rfl, (blk_cell h 4).trans rfl⟩
theorem c8 {w : World} {k : Nat} {a b c d e f g h : Value} {t : TypeId} (hh : w.heap[k]? = some (.cells #[a, b, c, d, e, f, g, h] t (0, 0))) : (w.cell? ⟨k, 0, none⟩ = some a ∧ w.cell? ⟨k, 1, none⟩ = some b ∧ w.cell? ⟨k, 2, none⟩ = some c ∧ w.cell? ⟨k, 3, none⟩ = some d ∧ w.cell? ⟨k, 4, none⟩ = some e ∧ w.cell? ⟨k, 5, none⟩ = some f ∧ w.cell? ⟨k, 6, none⟩ = some g ∧ w.cell? ⟨k, 7, none⟩ = some h) ∧
    w.frozen? ⟨k, 0, none⟩ = false ∧ w.frozen? ⟨k, 1, none⟩ = false ∧ w.frozen? ⟨k, 2, none⟩ = false ∧ w.frozen? ⟨k, 3, none⟩ = false ∧ w.frozen? ⟨k, 4, none⟩ = false ∧ w.frozen? ⟨k, 5, none⟩ = false ∧ w.frozen? ⟨k, 6, none⟩ = false ∧ w.frozen? ⟨k, 7, none⟩ = false :=
  ⟨⟨(blk_cell hh 0).trans rfl, (blk_cell hh 1).trans rfl, (blk_cell hh 2).trans rfl, (blk_cell hh 3).trans rfl, (blk_cell hh 4).trans rfl, (blk_cell hh 5).trans rfl, (blk_cell hh 6).trans rfl, (blk_cell hh 7).trans rfl⟩, blk_frozen hh 0, blk_frozen hh 1, blk_frozen hh 2, blk_frozen hh 3, blk_frozen hh 4, blk_frozen hh 5, blk_frozen hh 6, blk_frozen hh 7⟩
theorem br_put {w wx : World} {g : Nat} {cs cs' : Array Value} {i j : Nat} {u v : Value} {two : Array Value} (h : Bxs w wx [(g, cs, 48), (w.heap.size, two, 47)]) (hg : w.heap.size < g) (e : (cs.setIfInBounds i u).setIfInBounds j v = cs') : Bxs w ((wx.setCell ⟨g, i, none⟩ u).setCell ⟨g, j, none⟩ v) [(g, cs', 48), (w.heap.size, two, 47)] := by
  refine ⟨fun p hp => ?_, below_set (below_set h.b (by omega)) (by omega)⟩
  simp only [List.mem_cons, List.not_mem_nil, or_false] at hp
  rcases hp with rfl | rfl
  · exact blk_put (blk_put h.get i _ rfl) j _ e
  · exact blk_far (blk_far h.tail.get (by dsimp only; omega) _) (by dsimp only; omega) _
def BrP (w wx : World) (a b c d : Array Value) (s9 s10 s11 s12 : Value) : Prop := ∃ g9 g10 g11 g12 : Nat, s9 = .pointer (some ⟨g9, 0, none⟩) ∧ s10 = .pointer (some ⟨g10, 0, none⟩) ∧ s11 = .pointer (some ⟨g11, 0, none⟩) ∧ s12 = .pointer (some ⟨g12, 0, none⟩) ∧ Bxs w wx [(g9, a, 29), (g10, b, 29), (g11, c, 29), (g12, d, 29)]
theorem br_four {w w1 : World} {a b c d : Array Value} {l : List (Nat × Array Value × TypeId)} (h : Bxs w w1 l) : Bxs w ((((w1.alloc (.cells a 29)).alloc (.cells b 29)).alloc (.cells c 29)).alloc (.cells d 29)).drew ((w1.heap.size + 1 + 1 + 1, d, 29) :: (w1.heap.size + 1 + 1, c, 29) :: (w1.heap.size + 1, b, 29) :: (w1.heap.size, a, 29) :: l) := by
  have h := ((((h.push a 29).push b 29).push c 29).push d 29).drew
  simpa using h
theorem br_s {w w' : World} {g : Nat} {op xm xe ym ye M0 E0 M1 E1 M2 E2 M3 E3 : Int} (hh : Bxs w w' [(g, #[.int .i64 M0, .int .i64 E0, .int .i64 M1, .int .i64 E1, .int .i64 M2, .int .i64 E2, .int .i64 M3, .int .i64 E3], 48), (w.heap.size, #[.int .u8 op, .int .i64 xm, .int .i64 xe, .int .i64 ym, .int .i64 ye], 47)]) : (w'.cell? ⟨g, 0, none⟩ = some (.int .i64 M0) ∧ w'.cell? ⟨g, 1, none⟩ = some (.int .i64 E0) ∧ w'.cell? ⟨g, 2, none⟩ = some (.int .i64 M1) ∧ w'.cell? ⟨g, 3, none⟩ = some (.int .i64 E1) ∧ w'.cell? ⟨g, 4, none⟩ = some (.int .i64 M2) ∧ w'.cell? ⟨g, 5, none⟩ = some (.int .i64 E2) ∧ w'.cell? ⟨g, 6, none⟩ = some (.int .i64 M3) ∧ w'.cell? ⟨g, 7, none⟩ = some (.int .i64 E3)) ∧ Aside0 (Bxs w w' [(g, #[.int .i64 M0, .int .i64 E0, .int .i64 M1, .int .i64 E1, .int .i64 M2, .int .i64 E2, .int .i64 M3, .int .i64 E3], 48), (w.heap.size, #[.int .u8 op, .int .i64 xm, .int .i64 xe, .int .i64 ym, .int .i64 ye], 47)]) := ⟨(c8 hh.get).1, ⟨hh⟩⟩
set_option maxHeartbeats 16000000 in
set_option maxRecDepth 100000 in
theorem brackets_walk (s op xm xe ym ye M0 E0 c0 M1 E1 c1 M2 E2 c2' M3 E3 c3 cc : Int) (w : World) (h11 : Ret 11 #[] (.bool true))
    (hA0 : Ret 38 #[.int .u8 op, .int .i64 s, .int .i64 0, .agg #[.int .i64 xm, .int .i64 xe], .agg #[.int .i64 ym, .int .i64 ye]] (.tuple #[.agg #[.int .i64 M0, .int .i64 E0], .int .i64 c0])) (hZ0 : c0 ≠ 0 → M0 = 0 ∧ E0 = 0) (hV0 : c0 = 0 → Ret 14 #[.int .i64 s, .agg #[.int .i64 M0, .int .i64 E0]] (.bool true))
    (hA1 : Ret 38 #[.int .u8 op, .int .i64 s, .int .i64 1, .agg #[.int .i64 xm, .int .i64 xe], .agg #[.int .i64 ym, .int .i64 ye]] (.tuple #[.agg #[.int .i64 M1, .int .i64 E1], .int .i64 c1])) (hZ1 : c1 ≠ 0 → M1 = 0 ∧ E1 = 0) (hV1 : c1 = 0 → Ret 14 #[.int .i64 s, .agg #[.int .i64 M1, .int .i64 E1]] (.bool true))
    (hA2 : Ret 38 #[.int .u8 op, .int .i64 s, .int .i64 2, .agg #[.int .i64 xm, .int .i64 xe], .agg #[.int .i64 ym, .int .i64 ye]] (.tuple #[.agg #[.int .i64 M2, .int .i64 E2], .int .i64 c2'])) (hZ2 : c2' ≠ 0 → M2 = 0 ∧ E2 = 0) (hV2 : c2' = 0 → Ret 14 #[.int .i64 s, .agg #[.int .i64 M2, .int .i64 E2]] (.bool true))
    (hA3 : Ret 38 #[.int .u8 op, .int .i64 s, .int .i64 3, .agg #[.int .i64 xm, .int .i64 xe], .agg #[.int .i64 ym, .int .i64 ye]] (.tuple #[.agg #[.int .i64 M3, .int .i64 E3], .int .i64 c3])) (hZ3 : c3 ≠ 0 → M3 = 0 ∧ E3 = 0) (hV3 : c3 = 0 → Ret 14 #[.int .i64 s, .agg #[.int .i64 M3, .int .i64 E3]] (.bool true))
    (hF : c0 = 0 → c1 = 0 → c2' = 0 → c3 = 0 → Ret 35 #[.agg #[.int .i64 M2, .int .i64 E2], .agg #[.int .i64 M1, .int .i64 E1]] (.int .i64 cc) ∧ cc ≤ 0 ∧ (M0 = M1 ∧ E0 = E1 ∨ M0 = M2 ∧ E0 = E2) ∧ (M2 < 0 → M3 = M1 ∧ E3 = E1) ∧ (¬ M2 < 0 → M3 = M2 ∧ E3 = E2)) :
    Calls Try.prog 8 #[.int .i64 s, .agg #[.int .u8 op, .int .i64 xm, .int .i64 xe, .int .i64 ym, .int .i64 ye]] w fun e w' => e = .returned (.bool true) ∧ Below w.heap.size w w' := by
  have hu := Try.underlying29
  have hu2 := Try.underlying47
  have hu3 := Try.underlying48
  have H11 := Aside0.mk h11; have HF := Aside0.mk hF
  have HA0 := Aside0.mk hA0; have HZ0 := Aside0.mk hZ0; have HV0 := Aside0.mk hV0
  have HA1 := Aside0.mk hA1; have HZ1 := Aside0.mk hZ1; have HV1 := Aside0.mk hV1
  have HA2 := Aside0.mk hA2; have HZ2 := Aside0.mk hZ2; have HV2 := Aside0.mk hV2
  have HA3 := Aside0.mk hA3; have HZ3 := Aside0.mk hZ3; have HV3 := Aside0.mk hV3
  clear h11 hF hA0 hZ0 hV0 hA1 hZ1 hV1 hA2 hZ2 hV2 hA3 hZ3 hV3
  have HX := Aside0.mk ((bxs_nil w).push #[.int .u8 op, .int .i64 xm, .int .i64 xe, .int .i64 ym, .int .i64 ye] 47)
  go_enter Try.func8, Try.ntmps8
  go_wp2_with fail
  refine (at_w H11 _).mono ?_
  rintro e1 w1 ⟨rfl, hb⟩
  have HX1 := Aside0.mk ((HX.out.next hb).push (brA M0 E0 M1 E1 M2 E2 M3 E3 0) 48)
  have hlt := blk_lt (HX.out.next hb).get
  clear hb HX
  go_wp2_with fail
  go_loopw [16] (fun v wr => ∃ i : Nat, brI i v ∧ Aside0 (brC c0 c1 c2' c3 i) ∧ Aside0 (Bxs w wr [(w1.heap.size, brA M0 E0 M1 E1 M2 E2 M3 E3 i, 48), (w.heap.size, #[.int .u8 op, .int .i64 xm, .int .i64 xe, .int .i64 ym, .int .i64 ye], 47)])) (fun v _ => 4 - (intOf v).toNat)
  case atStart => exact ⟨0, .inl ⟨rfl, rfl⟩, ⟨by unfold brC; omega⟩, HX1⟩
  case round =>
    obtain ⟨i, hi, HC, HX⟩ := hrel
    clear HX1
    obtain ⟨o, x0, x1, y0, y1⟩ := c5 HX.out.tail.get
    unfold brI at hi
    rcases hi with ⟨rfl, rfl⟩ | ⟨rfl, rfl⟩ | ⟨rfl, rfl⟩ | ⟨rfl, rfl⟩ | ⟨rfl, rfl⟩
    · go_wp2_with fail
      refine (at_w HA0 _).mono ?_
      rintro e1 w2 ⟨rfl, hb⟩
      have HX2 := Aside0.mk (HX.out.next hb)
      clear hb HX o x0 x1 y0 y1
      by_cases hc : c0 = 0
      · have HVV := Aside0.mk (HV0.out hc)
        subst hc
        have HX3 := Aside0.mk (HX2.out.alloc (.cells #[.int .i64 M0, .int .i64 E0] 29))
        go_wp2_with fail
        refine (at_w HVV _).mono ?_
        rintro e1 w3 ⟨rfl, hb⟩
        obtain ⟨z0, z1⟩ := c2 (blk_below (blk_new w2 (.cells #[.int .i64 M0, .int .i64 E0] 29)) hb)
        have HX4 := Aside0.mk (HX3.out.next hb)
        clear HX2 HX3 hb
        obtain ⟨⟨a0, a1, a2, a3, a4, a5, a6, a7⟩, f0, f1, f2, f3, f4, f5, f6, f7⟩ := c8 HX4.out.get
        go_wp2_with fail
        go_roundw
        case rel => exact ⟨1, by unfold brI; simp, ⟨by have := HC.out; unfold brC at this ⊢; omega⟩, ⟨br_put HX4.out hlt rfl⟩⟩
        case measure => simp [intOf]
      · obtain ⟨rfl, rfl⟩ := HZ0.out hc
        have hk : (c0 == 0) = false := by rw [beq_eq_false_iff_ne]; exact hc
        have hk2 : (c0 != 0) = true := by rw [bne_iff_ne]; exact hc
        have HX3 := Aside0.mk (HX2.out.alloc (.cells #[.int .i64 0, .int .i64 0] 29))
        clear hc
        go_wp2
        go_ret
        exact ⟨rfl, HX3.out.b⟩
    · go_wp2_with fail
      refine (at_w HA1 _).mono ?_
      rintro e1 w2 ⟨rfl, hb⟩
      have HX2 := Aside0.mk (HX.out.next hb)
      clear hb HX o x0 x1 y0 y1
      by_cases hc : c1 = 0
      · have HVV := Aside0.mk (HV1.out hc)
        subst hc
        have HX3 := Aside0.mk (HX2.out.alloc (.cells #[.int .i64 M1, .int .i64 E1] 29))
        go_wp2_with fail
        refine (at_w HVV _).mono ?_
        rintro e1 w3 ⟨rfl, hb⟩
        obtain ⟨z0, z1⟩ := c2 (blk_below (blk_new w2 (.cells #[.int .i64 M1, .int .i64 E1] 29)) hb)
        have HX4 := Aside0.mk (HX3.out.next hb)
        clear HX2 HX3 hb
        obtain ⟨⟨a0, a1, a2, a3, a4, a5, a6, a7⟩, f0, f1, f2, f3, f4, f5, f6, f7⟩ := c8 HX4.out.get
        go_wp2_with fail
        go_roundw
        case rel => exact ⟨2, by unfold brI; simp, ⟨by have := HC.out; unfold brC at this ⊢; omega⟩, ⟨br_put HX4.out hlt rfl⟩⟩
        case measure => simp [intOf]
      · obtain ⟨rfl, rfl⟩ := HZ1.out hc
        have hk : (c1 == 0) = false := by rw [beq_eq_false_iff_ne]; exact hc
        have hk2 : (c1 != 0) = true := by rw [bne_iff_ne]; exact hc
        have HX3 := Aside0.mk (HX2.out.alloc (.cells #[.int .i64 0, .int .i64 0] 29))
        clear hc
        go_wp2
        go_ret
        exact ⟨rfl, HX3.out.b⟩
    · go_wp2_with fail
      refine (at_w HA2 _).mono ?_
      rintro e1 w2 ⟨rfl, hb⟩
      have HX2 := Aside0.mk (HX.out.next hb)
      clear hb HX o x0 x1 y0 y1
      by_cases hc : c2' = 0
      · have HVV := Aside0.mk (HV2.out hc)
        subst hc
        have HX3 := Aside0.mk (HX2.out.alloc (.cells #[.int .i64 M2, .int .i64 E2] 29))
        go_wp2_with fail
        refine (at_w HVV _).mono ?_
        rintro e1 w3 ⟨rfl, hb⟩
        obtain ⟨z0, z1⟩ := c2 (blk_below (blk_new w2 (.cells #[.int .i64 M2, .int .i64 E2] 29)) hb)
        have HX4 := Aside0.mk (HX3.out.next hb)
        clear HX2 HX3 hb
        obtain ⟨⟨a0, a1, a2, a3, a4, a5, a6, a7⟩, f0, f1, f2, f3, f4, f5, f6, f7⟩ := c8 HX4.out.get
        go_wp2_with fail
        go_roundw
        case rel => exact ⟨3, by unfold brI; simp, ⟨by have := HC.out; unfold brC at this ⊢; omega⟩, ⟨br_put HX4.out hlt rfl⟩⟩
        case measure => simp [intOf]
      · obtain ⟨rfl, rfl⟩ := HZ2.out hc
        have hk : (c2' == 0) = false := by rw [beq_eq_false_iff_ne]; exact hc
        have hk2 : (c2' != 0) = true := by rw [bne_iff_ne]; exact hc
        have HX3 := Aside0.mk (HX2.out.alloc (.cells #[.int .i64 0, .int .i64 0] 29))
        clear hc
        go_wp2
        go_ret
        exact ⟨rfl, HX3.out.b⟩
    · go_wp2_with fail
      refine (at_w HA3 _).mono ?_
      rintro e1 w2 ⟨rfl, hb⟩
      have HX2 := Aside0.mk (HX.out.next hb)
      clear hb HX o x0 x1 y0 y1
      by_cases hc : c3 = 0
      · have HVV := Aside0.mk (HV3.out hc)
        subst hc
        have HX3 := Aside0.mk (HX2.out.alloc (.cells #[.int .i64 M3, .int .i64 E3] 29))
        go_wp2_with fail
        refine (at_w HVV _).mono ?_
        rintro e1 w3 ⟨rfl, hb⟩
        obtain ⟨z0, z1⟩ := c2 (blk_below (blk_new w2 (.cells #[.int .i64 M3, .int .i64 E3] 29)) hb)
        have HX4 := Aside0.mk (HX3.out.next hb)
        clear HX2 HX3 hb
        obtain ⟨⟨a0, a1, a2, a3, a4, a5, a6, a7⟩, f0, f1, f2, f3, f4, f5, f6, f7⟩ := c8 HX4.out.get
        go_wp2_with fail
        go_roundw
        case rel => exact ⟨4, by unfold brI; simp, ⟨by have := HC.out; unfold brC at this ⊢; omega⟩, ⟨br_put HX4.out hlt rfl⟩⟩
        case measure => simp [intOf]
      · obtain ⟨rfl, rfl⟩ := HZ3.out hc
        have hk : (c3 == 0) = false := by rw [beq_eq_false_iff_ne]; exact hc
        have hk2 : (c3 != 0) = true := by rw [bne_iff_ne]; exact hc
        have HX3 := Aside0.mk (HX2.out.alloc (.cells #[.int .i64 0, .int .i64 0] 29))
        clear hc
        go_wp2
        go_ret
        exact ⟨rfl, HX3.out.b⟩
    · have hcs := HC.out
      unfold brC at hcs
      obtain ⟨rfl, rfl, rfl, rfl⟩ : c0 = 0 ∧ c1 = 0 ∧ c2' = 0 ∧ c3 = 0 := by omega
      obtain ⟨hcm, hcl, hnr, hdn, hup⟩ := HF.out rfl rfl rfl rfl
      have HCM := Aside0.mk hcm
      clear hcs hcm o x0 x1 y0 y1
      go_upto_region 14 with fail
      go_cut [9, 10, 11, 12] (fun s9 s10 s11 s12 wx => BrP w wx #[.int .i64 M0, .int .i64 E0] #[.int .i64 M1, .int .i64 E1] #[.int .i64 M2, .int .i64 E2] #[.int .i64 M3, .int .i64 E3] s9 s10 s11 s12)
      case first =>
        have HX5 := HX
        unfold brA at HX5
        clear HX
        go_region_held3 (fun w' => (w'.cell? ⟨w1.heap.size, 0, none⟩ = some (.int .i64 M0) ∧ w'.cell? ⟨w1.heap.size, 1, none⟩ = some (.int .i64 E0) ∧ w'.cell? ⟨w1.heap.size, 2, none⟩ = some (.int .i64 M1) ∧ w'.cell? ⟨w1.heap.size, 3, none⟩ = some (.int .i64 E1) ∧ w'.cell? ⟨w1.heap.size, 4, none⟩ = some (.int .i64 M2) ∧ w'.cell? ⟨w1.heap.size, 5, none⟩ = some (.int .i64 E2) ∧ w'.cell? ⟨w1.heap.size, 6, none⟩ = some (.int .i64 M3) ∧ w'.cell? ⟨w1.heap.size, 7, none⟩ = some (.int .i64 E3)) ∧ Aside0 (Bxs w w' [(w1.heap.size, #[.int .i64 M0, .int .i64 E0, .int .i64 M1, .int .i64 E1, .int .i64 M2, .int .i64 E2, .int .i64 M3, .int .i64 E3], 48), (w.heap.size, #[.int .u8 op, .int .i64 xm, .int .i64 xe, .int .i64 ym, .int .i64 ye], 47)])) (((try go_split_ands); (refine br_s ?_); (repeat (first | exact HX5.out | refine Bxs.drew ?_ | refine Bxs.alloc ?_ _)))) (first | (go_at_call 11; fail))
        all_goals (go_wp2_with fail; go_meet)
        all_goals (refine ⟨_, _, _, _, rfl, rfl, rfl, rfl, (br_four HX5.out).perm (fun p hp => ?_)⟩; simp only [List.mem_cons, List.not_mem_nil, or_false] at hp ⊢; rcases hp with h | h | h | h <;> simp [h])
      case rest =>
        obtain ⟨g9, g10, g11, g12, rfl, rfl, rfl, rfl, HX2⟩ := hcut
        have HX5 := Aside0.mk HX2
        clear HX2 HX
        obtain ⟨a0, a1⟩ := c2 HX5.out.get
        obtain ⟨b0, b1⟩ := c2 HX5.out.tail.get
        obtain ⟨d0, d1⟩ := c2 HX5.out.tail.tail.get
        obtain ⟨e0, e1⟩ := c2 HX5.out.tail.tail.tail.get
        have hcl' : decide (cc ≤ 0) = true := decide_eq_true hcl
        have j9 := blk_lt HX5.out.get; have j10 := blk_lt HX5.out.tail.get; have j11 := blk_lt HX5.out.tail.tail.get; have j12 := blk_lt HX5.out.tail.tail.tail.get
        have HX6 := Aside0.mk (HX5.out.push #[.int .i64 M3, .int .i64 E3] 29)
        clear HX5
        by_cases hneg : M2 < 0
        · have hd : decide (M2 < 0) = true := decide_eq_true hneg
          obtain ⟨hq1, hq2⟩ := hdn hneg
          obtain rfl := hq1.symm
          obtain rfl := hq2.symm
          clear hup hdn hneg
          by_cases hn1 : M0 = M1 ∧ E0 = E1
          · obtain ⟨rfl, rfl⟩ := hn1
            clear hnr
            go_wp2_with fail
            refine (at_w HCM _).mono ?_
            rintro e1 w3 ⟨rfl, hb⟩
            have HX7 := Aside0.mk (HX6.out.next hb)
            obtain ⟨t0, t1⟩ := c2 HX7.out.get
            obtain ⟨a0, a1⟩ := c2 HX7.out.tail.get
            obtain ⟨b0, b1⟩ := c2 HX7.out.tail.tail.get
            obtain ⟨d0, d1⟩ := c2 HX7.out.tail.tail.tail.get
            obtain ⟨e0, e1⟩ := c2 HX7.out.tail.tail.tail.tail.get
            clear hb HX6
            go_wp2
            go_ret
            exact ⟨rfl, HX7.out.b⟩
          · obtain ⟨rfl, rfl⟩ : M0 = M2 ∧ E0 = E2 := hnr.resolve_left hn1
            clear hnr
            by_cases hM : M0 = M1
            · subst hM
              have hne : (E0 == E1) = false := by rw [beq_eq_false_iff_ne]; exact fun h => hn1 ⟨rfl, h⟩
              clear hn1
              go_wp2_with fail
              refine (at_w HCM _).mono ?_
              rintro e1 w3 ⟨rfl, hb⟩
              have HX7 := Aside0.mk (HX6.out.next hb)
              obtain ⟨t0, t1⟩ := c2 HX7.out.get
              obtain ⟨a0, a1⟩ := c2 HX7.out.tail.get
              obtain ⟨b0, b1⟩ := c2 HX7.out.tail.tail.get
              obtain ⟨d0, d1⟩ := c2 HX7.out.tail.tail.tail.get
              obtain ⟨e0, e1⟩ := c2 HX7.out.tail.tail.tail.tail.get
              clear hb HX6
              go_wp2
              go_ret
              exact ⟨rfl, HX7.out.b⟩
            · have hne : (M0 == M1) = false := by rw [beq_eq_false_iff_ne]; exact hM
              clear hn1
              go_wp2_with fail
              refine (at_w HCM _).mono ?_
              rintro e1 w3 ⟨rfl, hb⟩
              have HX7 := Aside0.mk (HX6.out.next hb)
              obtain ⟨t0, t1⟩ := c2 HX7.out.get
              obtain ⟨a0, a1⟩ := c2 HX7.out.tail.get
              obtain ⟨b0, b1⟩ := c2 HX7.out.tail.tail.get
              obtain ⟨d0, d1⟩ := c2 HX7.out.tail.tail.tail.get
              obtain ⟨e0, e1⟩ := c2 HX7.out.tail.tail.tail.tail.get
              clear hb HX6
              go_wp2
              go_ret
              exact ⟨rfl, HX7.out.b⟩
        · have hd : decide (M2 < 0) = false := decide_eq_false hneg
          obtain ⟨hq1, hq2⟩ := hup (by omega)
          obtain rfl := hq1.symm
          obtain rfl := hq2.symm
          clear hup hdn hneg
          by_cases hn1 : M0 = M1 ∧ E0 = E1
          · obtain ⟨rfl, rfl⟩ := hn1
            clear hnr
            go_wp2_with fail
            refine (at_w HCM _).mono ?_
            rintro e1 w3 ⟨rfl, hb⟩
            have HX7 := Aside0.mk (HX6.out.next hb)
            obtain ⟨t0, t1⟩ := c2 HX7.out.get
            obtain ⟨a0, a1⟩ := c2 HX7.out.tail.get
            obtain ⟨b0, b1⟩ := c2 HX7.out.tail.tail.get
            obtain ⟨d0, d1⟩ := c2 HX7.out.tail.tail.tail.get
            obtain ⟨e0, e1⟩ := c2 HX7.out.tail.tail.tail.tail.get
            clear hb HX6
            go_wp2
            go_ret
            exact ⟨rfl, HX7.out.b⟩
          · obtain ⟨rfl, rfl⟩ : M0 = M2 ∧ E0 = E2 := hnr.resolve_left hn1
            clear hnr
            by_cases hM : M0 = M1
            · subst hM
              have hne : (E0 == E1) = false := by rw [beq_eq_false_iff_ne]; exact fun h => hn1 ⟨rfl, h⟩
              clear hn1
              go_wp2_with fail
              refine (at_w HCM _).mono ?_
              rintro e1 w3 ⟨rfl, hb⟩
              have HX7 := Aside0.mk (HX6.out.next hb)
              obtain ⟨t0, t1⟩ := c2 HX7.out.get
              obtain ⟨a0, a1⟩ := c2 HX7.out.tail.get
              obtain ⟨b0, b1⟩ := c2 HX7.out.tail.tail.get
              obtain ⟨d0, d1⟩ := c2 HX7.out.tail.tail.tail.get
              obtain ⟨e0, e1⟩ := c2 HX7.out.tail.tail.tail.tail.get
              clear hb HX6
              go_wp2
              go_ret
              exact ⟨rfl, HX7.out.b⟩
            · have hne : (M0 == M1) = false := by rw [beq_eq_false_iff_ne]; exact hM
              clear hn1
              go_wp2_with fail
              refine (at_w HCM _).mono ?_
              rintro e1 w3 ⟨rfl, hb⟩
              have HX7 := Aside0.mk (HX6.out.next hb)
              obtain ⟨t0, t1⟩ := c2 HX7.out.get
              obtain ⟨a0, a1⟩ := c2 HX7.out.tail.get
              obtain ⟨b0, b1⟩ := c2 HX7.out.tail.tail.get
              obtain ⟨d0, d1⟩ := c2 HX7.out.tail.tail.tail.get
              obtain ⟨e0, e1⟩ := c2 HX7.out.tail.tail.tail.tail.get
              clear hb HX6
              go_wp2
              go_ret
              exact ⟨rfl, HX7.out.b⟩
theorem apply_ret {op s how m e n f D F c : Int} (hm : I64 m) (hn : I64 n) (h : applyS op s how m e n f = (D, F, c)) : Ret 38 #[.int .u8 op, .int .i64 s, .int .i64 how, .agg #[.int .i64 m, .int .i64 e], .agg #[.int .i64 n, .int .i64 f]] (.tuple #[.agg #[.int .i64 D, .int .i64 F], .int .i64 c]) := by
  obtain ⟨k, hk⟩ := (papply_is op s how m e n f hm hn).rounds
  rw [h] at hk
  exact ret_b fun w => environlaw02_apply.calls k op s how m e n f D F c w hk
theorem apply_ok {op s how m e n f D F : Int} (h0 : 0 ≤ how) (h3 : how ≤ 3) (h : applyS op s how m e n f = (D, F, 0)) : (decide (er s = 0) && okB (pd s) D.natAbs F) = true ∧ I64 D ∧ I64 F := by
  obtain ⟨hs, ho⟩ := (apply_one h0 h3 h).2 rfl
  have hp := pd_ok hs
  have hk := ok_I64 (okB_bd ho hp.2).2.2.2.2 hp.2 rfl
  exact ⟨by rw [decide_eq_true hs, ho]; rfl, hk.1, hk.2⟩
theorem apply_valid {op s how m e n f D F c : Int} (h0 : 0 ≤ how) (h3 : how ≤ 3) (h : applyS op s how m e n f = (D, F, c)) (hc : c = 0) : Ret 14 #[.int .i64 s, .agg #[.int .i64 D, .int .i64 F]] (.bool true) := by
  subst hc
  obtain ⟨h1, h2, _⟩ := apply_ok h0 h3 h
  exact valid_ret h2 h1
theorem realsBrackets_walk (s op xm xe ym ye : Int) (w : World) (w2 : (Lit.int .i64 xm).wf = true) (w4 : (Lit.int .i64 ym).wf = true) :
    Calls Try.prog 8 #[.int .i64 s, .agg #[.int .u8 op, .int .i64 xm, .int .i64 xe, .int .i64 ym, .int .i64 ye]] w fun e w' => e = .returned (.bool true) ∧ Below w.heap.size w w' := by
  have hx := wf64 w2; have hy := wf64 w4
  rcases h0 : applyS op s 0 xm xe ym ye with ⟨M0, E0, c0⟩
  rcases h1 : applyS op s 1 xm xe ym ye with ⟨M1, E1, c1⟩
  rcases h2 : applyS op s 2 xm xe ym ye with ⟨M2, E2, c2⟩
  rcases h3 : applyS op s 3 xm xe ym ye with ⟨M3, E3, c3⟩
  refine brackets_walk s op xm xe ym ye M0 E0 c0 M1 E1 c1 M2 E2 c2 M3 E3 c3 (cmpS M2 E2 M1 E1) w awake_ret (apply_ret hx hy h0) (fun h => (apply_one (by decide) (by decide) h0).1 h) (fun h => apply_valid (by decide) (by decide) h0 h) (apply_ret hx hy h1) (fun h => (apply_one (by decide) (by decide) h1).1 h) (fun h => apply_valid (by decide) (by decide) h1 h) (apply_ret hx hy h2) (fun h => (apply_one (by decide) (by decide) h2).1 h) (fun h => apply_valid (by decide) (by decide) h2 h) (apply_ret hx hy h3) (fun h => (apply_one (by decide) (by decide) h3).1 h) (fun h => apply_valid (by decide) (by decide) h3 h) (fun k0 k1 k2 k3 => ?_)
  subst k0; subst k1; subst k2; subst k3
  obtain ⟨g1, g2, g3, g4⟩ := apply_four h0 h1 h2 h3
  have b1 := (apply_ok (by decide) (by decide) h1).2; have b2 := (apply_ok (by decide) (by decide) h2).2
  exact ⟨compare_ret M2 E2 M1 E1 b2.1 b1.1 b2.2 b1.2, g1, g2, g3, g4⟩
end Go.Proofs.Ytamkjpjibkabaaa.PR
