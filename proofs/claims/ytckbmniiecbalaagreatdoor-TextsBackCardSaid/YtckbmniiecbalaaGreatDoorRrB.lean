import Derived.Test.YtckbmniiecbalaaGreatDoorPTgE
import Derived.Test.YtckbmniiecbalaaGreatDoorPTgD
import Derived.Test.YtckbmniiecbalaaGreatDoorPTgC
import Derived.Test.YtckbmniiecbalaaGreatDoorPTgA
namespace Go.Proofs.YtckbmniiecbalaaGreatDoor.PT.Rr
open Go.RowKit Go.Proofs.YtckbmniiecbalaaGreatDoorW.PrintWords Go.Proofs.YtckbmniiecbalaaGreatDoorW.PrintLast Go.Proofs.YtckbmniiecbalaaGreatDoorW.PrintMore
set_option linter.unusedVariables false
set_option linter.unusedSimpArgs false
theorem dg_one : dg 1 = 1 := by rw [dg_pos (by decide), show 1 / 10 = 0 from rfl, dg_zero]
theorem p10 (k : Nat) : 0 < 10 ^ k := Nat.pow_pos (by decide)
theorem dg_le_iff {n k : Nat} : dg n ≤ k ↔ n < 10 ^ k := by
 constructor
 ·intro h; exact Nat.lt_of_lt_of_le (dg_lt n) (Nat.pow_le_pow_right (by decide) h)
 ·intro h
  by_cases hz : n = 0
  ·subst hz; rw [dg_zero]; omega
  ·have := Nat.lt_of_le_of_lt (dg_le hz) h
   have := (Nat.pow_lt_pow_iff_right (show 1 < 10 by decide)).1 this
   omega
theorem dg_mul {n : Nat} (h : n ≠ 0) (k : Nat) : dg (n * 10 ^ k) = dg n + k := by
 have hd : dg n ≠ 0 := by have := dg_pos h; omega
 refine dg_is ?_ (.inr ?_)
 ·rw [Nat.pow_add]; exact Nat.mul_lt_mul_of_pos_right (dg_lt n) (p10 k)
 ·have : dg n + k - 1 = dg n - 1 + k := by omega
  rw [this, Nat.pow_add]; exact Nat.mul_le_mul_right _ (dg_le h)
theorem dg_add {n k s : Nat} (h : n ≠ 0) (hs : s < 10 ^ k) : dg (n * 10 ^ k + s) = dg n + k := by
 have hd : dg n ≠ 0 := by have := dg_pos h; omega
 refine dg_is ?_ (.inr ?_)
 ·rw [Nat.pow_add]
  have h1 : (n + 1) * 10 ^ k ≤ 10 ^ dg n * 10 ^ k := Nat.mul_le_mul_right _ (dg_lt n)
  rw [Nat.add_mul, Nat.one_mul] at h1; omega
 ·have : dg n + k - 1 = dg n - 1 + k := by omega
  rw [this, Nat.pow_add]; have := Nat.mul_le_mul_right (10 ^ k) (dg_le h); omega
theorem dg_div (n k : Nat) : dg (n / 10 ^ k) = dg n - k := by
 by_cases hz : n / 10 ^ k = 0
 ·rw [hz, dg_zero]
  have : n < 10 ^ k := by
   rcases Nat.div_eq_zero_iff.1 hz with h | h
   ·have := p10 k; omega
   ·exact h
  have := dg_le_iff.2 this; omega
 ·have e := Nat.div_add_mod n (10 ^ k)
  have hm := Nat.mod_lt n (p10 k)
  have := dg_add hz hm
  rw [Nat.mul_comm] at e
  rw [e] at this; omega
def sdS (r m : Nat) (more : Bool) : Int := if r = m - r then (if more = true then 1 else 0) else if r < m - r then -1 else 1
def cutG (n d : Nat) (more : Bool) : Nat × Int × Bool := if d = 0 then (n, -1, more) else (n / 10 ^ d, sdS (n % 10 ^ d) (10 ^ d) more, more || decide (n % 10 ^ d ≠ 0))
def awayS (how : Int) (neg odd : Bool) (half : Int) (inexact : Bool) : Bool := if how = 0 then decide (half > 0) || (decide (half = 0) && odd) else if how = 1 then !neg && inexact else if how = 2 then neg && inexact else false
def strip (n : Nat) (e : Int) : Nat × Int := if h : n = 0 then (0, 0) else if n % 10 = 0 then strip (n / 10) (e + 1) else (n, e)
decreasing_by omega
def sgn (neg : Bool) (n : Nat) : Int := if neg = true then -(n : Int) else n
def real (neg : Bool) (x : Nat × Int) : (Int × Int) × Int := ((sgn neg x.1, x.2), 0)
def fin (p : Nat) (how : Int) (neg : Bool) (q : Nat) (t : Int) : (Int × Int) × Int :=
 if q = 0 then ((0, 0), 0) else if dg q + t > p + 400 then (if how = 0 ∨ how = 1 ∧ neg = false ∨ how = 2 ∧ neg = true then ((0, 0), 11) else real neg (10 ^ p - 1, 400)) else real neg (strip q t)
def dropS (p n : Nat) (e : Int) : Nat := max (dg n - p) (-400 - e).toNat
def up (how : Int) (neg : Bool) (c : Nat × Int × Bool) : Nat := c.1 + if awayS how neg (decide (c.1 % 2 = 1)) c.2.1 c.2.2 = true then 1 else 0
def rnd (p : Nat) (how : Int) (neg : Bool) (n : Nat) (e : Int) (more : Bool) : (Int × Int) × Int := fin p how neg (up how neg (cutG n (dropS p n e) more)) (e + dropS p n e)
theorem strip_mul (n : Nat) (e : Int) (k : Nat) : strip (n * 10 ^ k) (e - k) = strip n e := by
 by_cases hz : n = 0
 ·subst hz; rw [Nat.zero_mul]; unfold strip; simp
 ·induction k generalizing e with
  | zero => simp
  | succ k ih =>
   rw [strip]
   have h0 : n * 10 ^ (k + 1) ≠ 0 := Nat.mul_ne_zero hz (by have := p10 (k + 1); omega)
   have h1 : n * 10 ^ (k + 1) % 10 = 0 := by rw [Nat.pow_succ, ← Nat.mul_assoc]; exact Nat.mul_mod_left _ _
   have h2 : n * 10 ^ (k + 1) / 10 = n * 10 ^ k := by rw [Nat.pow_succ, ← Nat.mul_assoc]; exact Nat.mul_div_cancel _ (by decide)
   rw [dif_neg h0, if_pos h1, h2, show e - ((k + 1 : Nat) : Int) + 1 = e - k by omega]
   exact ih e
theorem strip_ten (p : Nat) (t : Int) : strip (10 ^ p) t = (1, t + p) := by
 have h := strip_mul 1 (t + p) p
 rw [Nat.one_mul, show t + p - p = t by omega] at h
 rw [h]; unfold strip; simp
theorem cut_sticky (n k s d : Nat) (more : Bool) (hs : s < 10 ^ k) (hd : d ≠ 0) : cutG (n * 10 ^ k + s) (d + k) more = cutG n d (more || decide (s ≠ 0)) := by
 unfold cutG
 rw [if_neg (by omega), if_neg hd]
 have hk := p10 k
 have hdp := p10 d
 have e1 : (n * 10 ^ k + s) / 10 ^ (d + k) = n / 10 ^ d := by
  rw [Nat.pow_add, Nat.mul_comm (10 ^ d), ← Nat.div_div_eq_div_mul, Nat.mul_comm n, Nat.mul_add_div hk, Nat.div_eq_of_lt hs, Nat.add_zero]
 have e2 : (n * 10 ^ k + s) % 10 ^ (d + k) = n % 10 ^ d * 10 ^ k + s := by
  rw [Nat.pow_add, Nat.mul_comm (10 ^ d), Nat.mod_mul, Nat.mul_comm n, Nat.mul_add_mod, Nat.mod_eq_of_lt hs, Nat.mul_add_div hk, Nat.div_eq_of_lt hs, Nat.add_zero, Nat.mul_comm (10 ^ k)]; omega
 rw [e1, e2]
 generalize hr : n % 10 ^ d = r
 have hr1 : r < 10 ^ d := by rw [← hr]; exact Nat.mod_lt _ hdp
 have e3 : 10 ^ (d + k) = 10 ^ d * 10 ^ k := Nat.pow_add ..
 obtain ⟨m, hm⟩ : ∃ m, 10 ^ d = 2 * m := ⟨5 * 10 ^ (d - 1), by
  have : d = d - 1 + 1 := by omega
  rw [this, Nat.pow_succ, Nat.add_sub_cancel]; omega⟩
 rw [e3, hm]
 rw [hm] at hr1
 generalize 10 ^ k = K at *
 congr 2
 ·unfold sdS
  -- compare r with m
  rcases Nat.lt_trichotomy r m with h | h | h
  ·have a1 : r * K + K ≤ m * K := by rw [← Nat.succ_mul]; exact Nat.mul_le_mul_right _ h
   have a2 : 2 * m * K = m * K + m * K := by rw [Nat.mul_assoc]; omega
   rw [a2]
   rw [if_neg (by omega), if_pos (by omega), if_neg (by omega), if_pos (by omega)]
  ·subst h
   have a2 : 2 * r * K = r * K + r * K := by rw [Nat.mul_assoc]; omega
   rw [a2]
   by_cases hz : s = 0
   ·subst hz; rw [if_pos (by omega), if_pos (by omega : r = 2 * r - r)]; simp
   ·rw [if_neg (by omega), if_neg (by omega), if_pos (by omega : r = 2 * r - r)]; simp [hz]
  ·have a1 : m * K + K ≤ r * K := by rw [← Nat.succ_mul]; exact Nat.mul_le_mul_right _ h
   have a2 : 2 * m * K = m * K + m * K := by rw [Nat.mul_assoc]; omega
   rw [a2]
   rw [if_neg (by omega), if_neg (by omega), if_neg (by omega), if_neg (by omega)]
 ·have : (r * K + s ≠ 0) ↔ (s ≠ 0 ∨ r ≠ 0) := by
   constructor
   ·intro h; by_cases hs0 : s = 0
    ·right; rintro rfl; apply h; rw [hs0]; simp
    ·exact .inl hs0
   ·rintro (h | h)
    ·omega
    ·have := Nat.mul_pos (Nat.pos_of_ne_zero h) hk; omega
  have h3 : decide (r * K + s ≠ 0) = (decide (s ≠ 0) || decide (r ≠ 0)) := by rw [← Bool.decide_or, decide_eq_decide]; exact this
  rw [h3, Bool.or_assoc]
theorem rnd_sticky (p : Nat) (how : Int) (neg : Bool) (n : Nat) (e : Int) (k s : Nat) (more : Bool) (hs : s < 10 ^ k) (hn : dropS p n e ≠ 0) (hz : n ≠ 0) :
  rnd p how neg (n * 10 ^ k + s) (e - k) more = rnd p how neg n e (more || decide (s ≠ 0)) := by
 unfold rnd
 have hd : dropS p (n * 10 ^ k + s) (e - k) = dropS p n e + k := by
  unfold dropS at *; rw [dg_add hz hs]; omega
 rw [hd, cut_sticky n k s _ more hs hn]
 congr 1; omega
theorem cut_exact (n k : Nat) (d : Nat) (h : d ≤ k) : cutG (n * 10 ^ k) d false = (n * 10 ^ (k - d), -1, false) := by
 unfold cutG
 split
 ·rename_i hd; subst hd; simp
 ·have e : 10 ^ k = 10 ^ (k - d) * 10 ^ d := by rw [← Nat.pow_add]; congr 1; omega
  have hp := p10 d
  rw [e, ← Nat.mul_assoc, Nat.mul_mod_left, Nat.mul_div_cancel _ hp]
  unfold sdS; rw [if_neg (by omega), if_pos (by omega)]; simp
theorem up_exact (how : Int) (neg : Bool) (q : Nat) : up how neg (q, -1, false) = q := by
 unfold up awayS; simp
theorem fin_mul (p : Nat) (how : Int) (neg : Bool) (n : Nat) (t : Int) (k : Nat) : fin p how neg (n * 10 ^ k) (t - k) = fin p how neg n t := by
 by_cases hz : n = 0
 ·subst hz; unfold fin; simp
 ·unfold fin
  have h0 : n * 10 ^ k ≠ 0 := Nat.mul_ne_zero hz (by have := p10 k; omega)
  rw [if_neg h0, if_neg hz, dg_mul hz, strip_mul]
  congr 1
  simp only [eq_iff_iff]; omega
theorem rnd_scale (p : Nat) (how : Int) (neg : Bool) (n : Nat) (e : Int) (k : Nat) : rnd p how neg (n * 10 ^ k) (e - k) false = rnd p how neg n e false := by
 by_cases hz : n = 0
 ·subst hz; unfold rnd; rw [Nat.zero_mul]
  have h : ∀ d, cutG 0 d false = (0, -1, false) := by
   intro d; have := cut_exact 0 d d (Nat.le_refl _); simpa using this
  rw [h, h, up_exact]; unfold fin; simp
 ·by_cases hd : dropS p n e = 0
  ·have h1 : dropS p (n * 10 ^ k) (e - k) ≤ k := by unfold dropS at *; rw [dg_mul hz]; omega
   unfold rnd
   rw [cut_exact n k _ h1, up_exact, hd, show cutG n 0 false = (n, -1, false) from rfl, up_exact]
   have := fin_mul p how neg n e (k - dropS p (n * 10 ^ k) (e - k))
   rw [Int.natCast_zero, Int.add_zero, ← this]; congr 1; omega
  ·have := rnd_sticky p how neg n e k 0 false (p10 k) hd hz
   simpa using this
theorem up_le (how : Int) (neg : Bool) (n d : Nat) (more : Bool) : n / 10 ^ d ≤ up how neg (cutG n d more) ∧ up how neg (cutG n d more) ≤ n / 10 ^ d + 1 := by
 unfold up cutG
 split
 ·rename_i h; subst h; rw [Nat.pow_zero, Nat.div_one]; simp only; split <;> omega
 ·simp only; split <;> omega
theorem drop_lt (p n : Nat) (e : Int) : n / 10 ^ dropS p n e < 10 ^ p := by
 rw [← dg_le_iff, dg_div]; unfold dropS; omega
theorem up_lt (p : Nat) (how : Int) (neg : Bool) (n : Nat) (e : Int) (more : Bool) : up how neg (cutG n (dropS p n e) more) ≤ 10 ^ p := by
 have := up_le how neg n (dropS p n e) more
 have := drop_lt p n e
 omega
def finP (p : Nat) (how : Int) (neg : Bool) (q : Nat) (t : Int) : (Int × Int) × Int :=
 let q1 := if dg q > p then q / 10 else q
 let t1 := if dg q > p then t + 1 else t
 if q1 = 0 then ((0, 0), 0) else if dg q1 + max (t1 - 400) 0 > p then (if how = 0 ∨ how = 1 ∧ neg = false ∨ how = 2 ∧ neg = true then ((0, 0), 11) else real neg (10 ^ p - 1, 400)) else real neg (strip q1 t1)
theorem finP_is {p : Nat} (hp : p ≠ 0) (how : Int) (neg : Bool) {q : Nat} (hq : q ≤ 10 ^ p) (t : Int) : finP p how neg q t = fin p how neg q t := by
 unfold finP fin
 by_cases h : dg q > p
 ·have h1 : ¬ q < 10 ^ p := fun h' => by have := dg_le_iff.2 h'; omega
  obtain rfl : q = 10 ^ p := by omega
  have e1 : dg (10 ^ p) = p + 1 := by have := dg_mul (n := 1) (by decide) p; rw [Nat.one_mul] at this; rw [this, dg_one]; omega
  have e2 : 10 ^ p / 10 = 10 ^ (p - 1) := by
   have : p = p - 1 + 1 := by omega
   rw [this, Nat.pow_succ, Nat.add_sub_cancel]; omega
  have e3 : dg (10 ^ (p - 1)) = p := by
   have := dg_mul (n := 1) (by decide) (p - 1); rw [Nat.one_mul] at this; rw [this, dg_one]; omega
  have z1 := p10 (p - 1)
  have z2 := p10 p
  simp only [if_pos h, e2]
  rw [if_neg (Nat.ne_of_gt z1), if_neg (Nat.ne_of_gt z2), e1, e3, strip_ten, strip_ten]
  have e4 : t + 1 + ((p - 1 : Nat) : Int) = t + p := by omega
  rw [e4]
  congr 1
  simp only [eq_iff_iff]; omega
 ·simp only [if_neg h]
  by_cases hz : q = 0
  ·rw [if_pos hz, if_pos hz]
  ·rw [if_neg hz, if_neg hz]
   congr 1
   simp only [eq_iff_iff]; omega
structure Ok (p n : Nat) (e : Int) : Prop where
 z : n = 0 → e = 0
 t : n ≠ 0 → n % 10 ≠ 0
 d : dg n ≤ p
 l : -400 ≤ e
 h : e + dg n ≤ p + 400
theorem strip_ok {n : Nat} {e : Int} (h : n = 0 → e = 0) (h2 : n ≠ 0 → n % 10 ≠ 0) : strip n e = (n, e) := by
 unfold strip
 by_cases hz : n = 0
 ·rw [dif_pos hz, hz, h hz]
 ·rw [dif_neg hz, if_neg (h2 hz)]
theorem rnd_ok {p n : Nat} {e : Int} (how : Int) (neg : Bool) (h : Ok p n e) : rnd p how neg n e false = real neg (n, e) := by
 have hd : dropS p n e = 0 := by have := h.d; have := h.l; unfold dropS; omega
 unfold rnd
 rw [hd, show cutG n 0 false = (n, -1, false) from rfl, up_exact]
 unfold fin
 by_cases hz : n = 0
 ·rw [if_pos hz, hz, h.z hz]; unfold real sgn; cases neg <;> rfl
 ·rw [if_neg hz, if_neg (by have := h.h; omega)]
  rw [strip_ok (fun _ => by omega) h.t]; simp
theorem x64 {n : Int} (h : -9223372036854775808 ≤ n) (h' : n ≤ 9223372036854775807) : wrap64 n = n := by
 unfold wrap64; omega
theorem dg_small {n : Nat} (h : n ≤ 340282366920938463463374607431768211456) : dg n ≤ 39 := by
 have : n < 10 ^ 39 := by omega
 by_cases hz : n = 0
 ·subst hz; rw [dg_zero]; omega
 ·have := Nat.lt_of_le_of_lt (dg_le hz) this
  have := (Nat.pow_lt_pow_iff_right (show 1 < 10 by decide)).1 this
  omega
def pd (s : Int) : Nat := if s = -1 then 7 else if s = 0 then 15 else if s = 1 then 18 else 0
def er (s : Int) : Int := if s = -1 then 0 else if s = 0 then 0 else if s = 1 then 0 else 1
theorem pd_of {s : Int} (h : er s = 0) : pd s = 7 ∨ pd s = 15 ∨ pd s = 18 := by
 unfold er at h; unfold pd
 split
 ·omega
 ·split
  ·omega
  ·split
   ·omega
   ·rename_i h1 h2 h3; rw [if_neg h1, if_neg h2, if_neg h3] at h; omega
theorem er_or (s : Int) : er s = 0 ∨ er s = 1 := by
 unfold er; split
 ·omega
 ·split
  ·omega
  ·split <;> omega
def flat (r : (Int × Int) × Int) : Int × Int × Int := (r.1.1, r.1.2, r.2)
theorem rnd_zero (p : Nat) (how : Int) (neg : Bool) (e : Int) : rnd p how neg 0 e false = ((0, 0), 0) := by
 unfold rnd
 have h : ∀ d, cutG 0 d false = (0, -1, false) := by
  intro d; have := cut_exact 0 d d (Nat.le_refl _); simpa using this
 rw [h, up_exact]; unfold fin; simp
def okB (p n : Nat) (e : Int) : Bool := if n = 0 then decide (e = 0) else decide (n % 10 ≠ 0 ∧ dg n ≤ p ∧ -400 ≤ e ∧ e + dg n ≤ p + 400)
def makeS (s how m e : Int) : Int × Int × Int := if er s = 0 ∧ 0 ≤ how ∧ how ≤ 3 then flat (rnd (pd s) how (decide (m < 0)) m.natAbs (min (max e (-1000)) 1000) false) else (0, 0, 1)
theorem pdigits_is (s : Int) : reals_Digits.f s = some ((pd s : Int), er s) := by
 unfold reals_Digits.f pd er
 split
 ·rfl
 ·split
  ·rfl
  ·split <;> rfl
theorem hl_small {n : Nat} (h : n < 18446744073709551616) : hiw n = 0 ∧ low n = (n : Int) := by
 unfold hiw low; omega
theorem mag_is {m : Int} (h : -9223372036854775808 ≤ m) (h' : m ≤ 9223372036854775807) : reals_magnitude.f m = some (hiw m.natAbs, low m.natAbs) := by
 have hs := hl_small (n := m.natAbs) (by omega)
 rw [hs.1, hs.2]
 unfold reals_magnitude.f
 simp only [IntKind.wrap_u64]
 split
 ·congr 2; omega
 ·congr 2; omega
theorem two128 {n : Nat} (h : n ≤ 9223372036854775808) : n < 340282366920938463463374607431768211456 := by omega
theorem pdig_is {n : Nat} (h : n < 340282366920938463463374607431768211456) : reals_wide_digits.f (hiw n) (low n) = some ((dg n : Nat) : Int) := by
 unfold reals_wide_digits.f
 have hu := hl_u h
 rw [if_pos hu, wv_hl]
theorem tmod_ten (m : Int) : (Int.tmod m 10 = 0) ↔ m.natAbs % 10 = 0 := by
 rcases Int.lt_or_le m 0 with h | h
 ·have : m = -((m.natAbs : Nat) : Int) := by omega
  generalize m.natAbs = n at *
  subst this
  rw [Int.neg_tmod, Int.tmod_eq_emod_of_nonneg (by omega)]; omega
 ·have : m = ((m.natAbs : Nat) : Int) := by omega
  generalize m.natAbs = n at *
  subst this
  rw [Int.tmod_eq_emod_of_nonneg (by omega)]; omega
theorem valid_j0 (k : Nat) (h l p e : Int) (d : Nat) (m : Int) (hm : reals_magnitude.f m = some (h, l)) (hd : reals_wide_digits.f h l = some (d : Int)) : reals_Valid.j0 (k + 1) p false m e = some (decide ((wrap64 (d + (mx (wrap64 (e - 400)) 0))) ≤ p)) := by
 simp only [reals_Valid.j0]; rw [if_neg (by simp), hm]; simp only [Option.bind_some]; rw [hd]; simp only [Option.bind_some]
theorem pvalid_is (s m e : Int) (hm : -9223372036854775808 ≤ m) (hm2 : m ≤ 9223372036854775807) : Ev (fun k => reals_Valid.f k s m e) (decide (er s = 0) && okB (pd s) m.natAbs e) := by
 by_cases hs : er s = 0
 ·have hp := pd_of hs
  rw [hs, show decide ((0 : Int) = 0) = true from rfl, Bool.true_and]
  unfold okB
  by_cases h0 : m = 0
  ·subst h0
   refine Ev.congr (f := fun _ => some (decide (e = 0))) (fun k => ?_) (Ev.now _)
   unfold reals_Valid.f; rw [pdigits_is]; simp only [Option.bind_some]; rw [if_pos hs, if_pos trivial]; rfl
  ·have hz : m.natAbs ≠ 0 := by omega
   have hds := dg_small (n := m.natAbs) (by omega)
   have hdg := pdig_is (two128 (n := m.natAbs) (by omega))
   have hmg := mag_is hm hm2
   rw [if_neg hz]
   have bad : Ev (fun k => reals_Valid.j0 k (pd s) true m e) false := by
    refine Ev.step (f := fun _ => some false) (fun k => ?_) (Ev.now _)
    simp only [reals_Valid.j0]; rw [if_pos trivial]
   by_cases h1 : m.natAbs % 10 = 0
   ·rw [decide_eq_false (fun h => h.1 h1)]
    refine Ev.congr (fun k => ?_) bad
    unfold reals_Valid.f; rw [pdigits_is]; simp only [Option.bind_some]; rw [if_pos hs, if_neg h0, if_pos ((tmod_ten m).2 h1)]
   ·have h1' : ¬ Int.tmod m 10 = 0 := fun h => h1 ((tmod_ten m).1 h)
    by_cases h2 : e < -400
    ·rw [decide_eq_false (fun h => by have := h.2.2.1; omega)]
     refine Ev.congr (fun k => ?_) bad
     unfold reals_Valid.f; rw [pdigits_is]; simp only [Option.bind_some]; rw [if_pos hs, if_neg h0, if_neg h1', if_pos h2]
    ·by_cases h3 : e > 400 + pd s
     ·rw [decide_eq_false (fun h => by have := h.2.2.2; omega)]
      refine Ev.congr (fun k => ?_) bad
      unfold reals_Valid.f; rw [pdigits_is]; simp only [Option.bind_some]; rw [if_pos hs, if_neg h0, if_neg h1', if_neg h2, x64 (by omega) (by omega), decide_eq_true h3]
     ·refine Ev.congr (f := fun k => reals_Valid.j0 k (pd s) false m e) (fun k => ?_) ?_
      ·unfold reals_Valid.f; rw [pdigits_is]; simp only [Option.bind_some]; rw [if_pos hs, if_neg h0, if_neg h1', if_neg h2, x64 (by omega) (by omega), decide_eq_false h3]
      refine Ev.step (f := fun _ => some (decide (((dg m.natAbs : Nat) : Int) + mx (e - 400) 0 ≤ pd s))) (fun k => ?_) ?_
      ·rw [valid_j0 k _ _ _ e _ m hmg hdg]
       rw [x64 (n := e - 400) (by omega) (by omega), x64 (by unfold mx; split <;> omega) (by unfold mx; split <;> omega)]
      have : decide (((dg m.natAbs : Nat) : Int) + mx (e - 400) 0 ≤ pd s) = decide (m.natAbs % 10 ≠ 0 ∧ dg m.natAbs ≤ pd s ∧ -400 ≤ e ∧ e + dg m.natAbs ≤ pd s + 400) := by
       rw [decide_eq_decide]; unfold mx; constructor
       ·intro h; split at h <;> exact ⟨h1, by omega, by omega, by omega⟩
       ·rintro ⟨a, b, c, d⟩; split <;> omega
      rw [this]; exact Ev.now _
 ·refine Ev.congr (f := fun _ => some false) (fun k => ?_) ?_
  ·unfold reals_Valid.f; rw [pdigits_is]; simp only [Option.bind_some]; rw [if_neg hs]
  rw [decide_eq_false hs, Bool.false_and]; exact Ev.now _
def checkS (s how : Int) (ok : Bool) : Int × Int := if er s = 0 ∧ 0 ≤ how ∧ how ≤ 3 then (if ok = true then ((pd s : Int), 0) else (0, 11)) else (0, 1)
theorem check_l0 (s : Int) (hs : er s = 0) (l : List S23) (hl : ∀ x ∈ l, -9223372036854775808 ≤ x.f0 ∧ x.f0 ≤ 9223372036854775807) (hn : l.length ≤ 1000) : ∀ (n i : Nat), i + n = l.length →
  Ev (fun k => reals_check.l0 k s (pd s) l (l.length : Int) (i : Int)) (if (l.drop i).all (fun x => okB (pd s) x.f0.natAbs x.f1) = true then ((pd s : Int), 0) else (0, 11)) := by
 intro n
 induction n with
 | zero =>
  intro i hi
  rw [List.drop_eq_nil_of_le (by omega)]
  refine Ev.step (f := fun _ => some ((pd s : Int), 0)) (fun k => ?_) (Ev.now _)
  simp only [reals_check.l0]; rw [if_neg (by omega)]
 | succ n ih =>
  intro i hi
  have hlt : i < l.length := by omega
  have hrd : rd_T23 l (i : Int) = l[i] := by unfold rd_T23; rw [Int.toNat_natCast, List.getD_eq_getElem?_getD, List.getElem?_eq_getElem hlt]; rfl
  have hb := hl l[i] (List.getElem_mem hlt)
  have hv := pvalid_is s l[i].f0 l[i].f1 hb.1 hb.2
  rw [hs, show decide ((0 : Int) = 0) = true from rfl, Bool.true_and] at hv
  rw [List.drop_eq_getElem_cons hlt, List.all_cons]
  refine Ev.step (f := fun k => (reals_Valid.f k s l[i].f0 l[i].f1).bind fun t112 => if t112 = true then reals_check.l0 k s (pd s) l (l.length : Int) ((i + 1 : Nat) : Int) else some (0, 11)) (fun k => ?_) ?_
  ·simp only [reals_check.l0]; rw [if_pos (by omega), if_pos (by omega), if_pos (by omega), hrd, x64 (by omega) (by omega)]; rfl
  refine Ev.bind hv ?_
  cases okB (pd s) l[i].f0.natAbs l[i].f1
  ·exact Ev.now _
  ·rw [Bool.true_and]; exact ih (i + 1) (by omega)
theorem check_is (s how : Int) (l : List S23) (hl : ∀ x ∈ l, -9223372036854775808 ≤ x.f0 ∧ x.f0 ≤ 9223372036854775807) (hn : l.length ≤ 1000) : Ev (fun k => reals_check.f k s how l) (checkS s how (l.all fun x => okB (pd s) x.f0.natAbs x.f1)) := by
 unfold checkS
 have bad : ∀ p : Int, Ev (fun k => reals_check.j0 k s l p true) (0, 1) := by
  intro p
  refine Ev.step (f := fun _ => some (0, 1)) (fun k => ?_) (Ev.now _)
  simp only [reals_check.j0]; rw [if_pos trivial]
 rcases er_or s with hs | hs
 ·by_cases h0 : how < 0
  ·rw [if_neg (by omega)]
   refine Ev.congr (fun k => ?_) (bad (pd s))
   unfold reals_check.f; rw [pdigits_is]; simp only [Option.bind_some]; rw [if_pos hs, if_pos h0]
  ·by_cases h3 : how > 3
   ·rw [if_neg (by omega)]
    refine Ev.congr (fun k => ?_) (bad (pd s))
    unfold reals_check.f; rw [pdigits_is]; simp only [Option.bind_some]; rw [if_pos hs, if_neg h0, decide_eq_true h3]
   ·rw [if_pos ⟨hs, by omega, by omega⟩]
    refine Ev.congr (f := fun k => reals_check.j0 k s l (pd s) false) (fun k => ?_) ?_
    ·unfold reals_check.f; rw [pdigits_is]; simp only [Option.bind_some]; rw [if_pos hs, if_neg h0, decide_eq_false h3]
    refine Ev.step (fun k => ?_) (check_l0 s hs l hl hn l.length 0 (by omega))
    simp only [reals_check.j0]; rw [if_neg (by simp)]; rfl
 ·rw [if_neg (by omega)]
  refine Ev.congr (fun k => ?_) (bad (pd s))
  unfold reals_check.f; rw [pdigits_is]; simp only [Option.bind_some]; rw [if_neg (by omega)]
theorem plus_is {n m : Nat} (h : n + m < 340282366920938463463374607431768211456) : reals_wide_plus.f (hiw n) (low n) (hiw m) (low m) = some (hiw (n + m), low (n + m)) := by
 unfold reals_wide_plus.f
 have h1 := hl_u (n := n) (by omega)
 have h2 := hl_u (n := m) (by omega)
 rw [if_pos ⟨h1.1, h1.2, h2.1, h2.2⟩]
 unfold hiw low u64s
 congr 2 <;> omega
theorem cutS_is {n : Nat} (h : n < 340282366920938463463374607431768211456) (d : Nat) (more : Bool) : cutS n d more = cutG n d more := by
 unfold cutS cutG
 by_cases h0 : d = 0
 ·rw [if_pos h0, if_pos h0]
 ·rw [if_neg h0, if_neg h0]
  by_cases h1 : 38 < d
  ·rw [if_pos h1]
   have h39 : 10 ^ 39 ≤ 10 ^ d := Nat.pow_le_pow_right (by decide) h1
   have hlt : n < 10 ^ d := by omega
   rw [Nat.div_eq_of_lt hlt, Nat.mod_eq_of_lt hlt]
   have : sdS n (10 ^ d) more = -1 := by unfold sdS; rw [if_neg (by omega), if_pos (by omega)]
   rw [this]
  ·rw [if_neg h1]; rfl
theorem pcut_is {n : Nat} (h : n < 340282366920938463463374607431768211456) {d : Nat} (hd : d ≤ 1000000) (more : Bool) : reals_wide_cut.f (hiw n) (low n) (d : Int) more = some (hiw (cutG n d more).1, low (cutG n d more).1, (cutG n d more).2) := by
 unfold reals_wide_cut.f
 rw [if_pos ⟨hl_u h, by omega, by omega⟩, wv_hl, Int.toNat_natCast, cutS_is h]
theorem and_one (z : Int) (h0 : 0 ≤ z) (h1 : z < 18446744073709551616) : Go.bits .and .u64 z 1 = z % 2 := by
 obtain ⟨n, rfl⟩ := Int.eq_ofNat_of_zero_le h0
 have h := bits_and_u64_nat n 1 (by omega) (by decide)
 rw [show (1 : Int) = ((1 : Nat) : Int) from rfl, h, Nat.and_one_is_mod]; rfl
theorem paway_is (how : Int) (h0 : 0 ≤ how) (h3 : how ≤ 3) (neg : Bool) (x y z : Int) (b : Bool) (odd : Bool) (half : Int) (left : Bool) : reals_exact_away.f neg x y z b how odd half left = some (awayS how neg odd half left) := by
 unfold reals_exact_away.f awayS
 have hh : how = 0 ∨ how = 1 ∨ how = 2 ∨ how = 3 := by omega
 rcases hh with rfl | rfl | rfl | rfl
 ·rw [if_pos rfl, if_pos rfl]
  by_cases h : half > 0
  ·rw [if_pos h, decide_eq_true h]; rfl
  ·rw [if_neg h, decide_eq_false h]
   by_cases h' : half = 0
   ·rw [if_pos h', decide_eq_true h']; rfl
   ·rw [if_neg h', decide_eq_false h']; rfl
 ·cases neg <;> cases left <;> rfl
 ·cases neg <;> cases left <;> rfl
 ·cases neg <;> cases left <;> rfl
theorem over_ev {n c : Nat} (hn : n < 340282366920938463463374607431768211456) (hc0 : 0 < c) (hc : c < 18446744073709551616) : Ev (fun k => reals_wide_over.f k (hiw n) (low n) c) (hiw (n / c), low (n / c), ((n % c : Nat) : Int)) :=
 ⟨14, fun k hk => by obtain ⟨j, rfl⟩ : ∃ j, k = j + 14 := ⟨k - 14, by omega⟩; exact over_is hn hc0 hc j⟩
theorem power_ev {d : Nat} (hd : d ≤ 38) : Ev (fun k => reals_power.f k d) (hiw (10 ^ d), low (10 ^ d)) := ⟨d + 1, fun k hk => power_is hd k (by omega)⟩
theorem round_l0 (neg : Bool) (y z u : Int) (b : Bool) : ∀ (q : Nat) (t : Int), q ≠ 0 → q ≤ 1000000000000000000 → -100000 ≤ t → t + dg q ≤ 100000 → Ev (fun k => reals_exact_round.l0 k t neg y z u b (hiw q) (low q)) (flat (real neg (strip q t))) := by
 intro q
 induction q using Nat.strongRecOn with
 | ind q ih =>
  intro t hq hq2 ht ht2
  have hp := dg_pos hq
  have hs := hl_small (n := q) (by omega)
  by_cases h0 : q % 10 = 0
  ·rw [show strip q t = strip (q / 10) (t + 1) by rw [strip, dif_neg hq, if_pos h0]]
   refine Ev.step (f := fun k => (reals_wide_over.f k (hiw q) (low q) 10).bind fun bt151 => (if bt151.2.2 = 0 then (reals_exact_round.l0 k (wrap64 (t + 1)) neg y z u b bt151.1 bt151.2.1) else (if neg = true then (some (wrap64 (-(wrap64 (low q))), t, 0)) else (some (wrap64 (low q), t, 0))))) (fun k => ?_) ?_
   ·simp only [reals_exact_round.l0]
   refine Ev.bind (over_ev (c := 10) (by omega) (by decide) (by decide)) ?_
   rw [h0, x64 (by omega) (by omega)]
   exact ih (q / 10) (by omega) (t + 1) (by omega) (by omega) (by omega) (by omega)
  ·rw [show strip q t = (q, t) by rw [strip, dif_neg hq, if_neg h0]]
   refine Ev.step (f := fun k => (reals_wide_over.f k (hiw q) (low q) 10).bind fun bt151 => (if bt151.2.2 = 0 then (reals_exact_round.l0 k (wrap64 (t + 1)) neg y z u b bt151.1 bt151.2.1) else (if neg = true then (some (wrap64 (-(wrap64 (low q))), t, 0)) else (some (wrap64 (low q), t, 0))))) (fun k => ?_) ?_
   ·simp only [reals_exact_round.l0]
   refine Ev.bind (over_ev (c := 10) (by omega) (by decide) (by decide)) ?_
   have hq9 : q < 1000000000000000000 := by omega
   have hne : ¬ (((q % 10 : Nat) : Int) = 0) := by omega
   have hw1 : wrap64 (q : Int) = q := x64 (by clear hs; omega) (by clear hs; omega)
   have hw2 : wrap64 (-(q : Int)) = -q := x64 (by clear hs hw1; omega) (by clear hs hw1; omega)
   simp only [if_neg hne, hs.2, hw1, hw2]
   unfold flat real sgn
   cases neg
   ·simp only [Bool.false_eq_true, if_false]; exact Ev.now _
   ·simp only [if_true]; exact Ev.now _
theorem round_j3 (neg : Bool) (y z u : Int) (b : Bool) (q : Nat) (t : Int) (hq : q ≠ 0) (hq2 : q ≤ 1000000000000000000) (ht : -50000 ≤ t) (ht2 : t ≤ 50000) : Ev (fun k => reals_exact_round.j3 k t neg y z u b (hiw q) (low q)) (flat (real neg (strip q t))) := by
 have := dg_small (n := q) (by omega)
 refine Ev.step (fun k => ?_) (round_l0 neg y z u b q t hq hq2 (by omega) (by omega))
 simp only [reals_exact_round.j3]
theorem round_j2 (p : Nat) (hp : p ≤ 18) (hp0 : p ≠ 0) (x neg : Bool) (y z u : Int) (b : Bool) : Ev (fun k => reals_exact_round.j2 k (p : Int) x neg y z u b) (flat (if x = true then ((0, 0), 11) else real neg (10 ^ p - 1, 400))) := by
 cases x
 ·have h18 : 10 ^ p ≤ 10 ^ 18 := Nat.pow_le_pow_right (by decide) hp
  have h10 : 10 ^ p = 10 * 10 ^ (p - 1) := by rw [Nat.mul_comm, ← Nat.pow_succ]; congr 1; omega
  have hz := p10 (p - 1)
  refine Ev.step (f := fun k => (reals_power.f k p).bind fun bt147 => (reals_wide_minus.f bt147.1 bt147.2 0 1).bind fun bt149 => reals_exact_round.j3 k 400 neg y z u b bt149.1 bt149.2) (fun k => ?_) ?_
  ·simp only [reals_exact_round.j2]; rw [if_neg (by simp)]
  refine Ev.bind (power_ev (by omega)) ?_
  have hm := minus_is (n := 10 ^ p) (m := 1) (by omega) (by omega)
  rw [show hiw 1 = 0 from rfl, show low 1 = 1 from rfl] at hm
  dsimp only
  rw [hm]; simp only [Option.bind_some]
  have h := round_j3 neg y z u b (10 ^ p - 1) 400 (by omega) (by omega) (by omega) (by omega)
  rw [strip_ok (fun h => by omega) (fun _ => by omega)] at h
  exact h
 ·refine Ev.step (f := fun _ => some (0, 0, 11)) (fun k => ?_) (Ev.now _)
  simp only [reals_exact_round.j2]; rw [if_pos trivial]
theorem round_j1 (p : Nat) (hp : p ≤ 18) (hp0 : p ≠ 0) (how : Int) (h0 : 0 ≤ how) (h3 : how ≤ 3) (neg : Bool) (y z u : Int) (b : Bool) (q : Nat) (hq : q ≤ 1000000000000000000) (t : Int) (ht : -50000 ≤ t) (ht2 : t ≤ 50000) :
  Ev (fun k => reals_exact_round.j1 k (p : Int) how t neg y z u b (hiw q) (low q)) (flat (if q = 0 then ((0, 0), 0) else if dg q + max (t - 400) 0 > p then (if how = 0 ∨ how = 1 ∧ neg = false ∨ how = 2 ∧ neg = true then ((0, 0), 11) else real neg (10 ^ p - 1, 400)) else real neg (strip q t))) := by
 have hs := hl_small (n := q) (by omega)
 have hd := dg_small (n := q) (by omega)
 by_cases hz : q = 0
 ·subst hz
  refine Ev.step (f := fun _ => some (0, 0, 0)) (fun k => ?_) (Ev.now _)
  simp only [reals_exact_round.j1]; rw [if_pos (by decide)]
 ·have hb : ¬ ((hiw q == 0 && (low q == 0)) = true) := by
   rw [hs.2, Bool.and_eq_true, beq_iff_eq, beq_iff_eq]; omega
  have hdg := pdig_is (n := q) (by omega)
  have hw : Aside0 (wrap64 (((dg q : Nat) : Int) + (mx (wrap64 (t - 400)) 0)) = (dg q : Int) + max (t - 400) 0) := ⟨by
   rw [x64 (n := t - 400) (by omega) (by omega)]
   have : mx (t - 400) 0 = max (t - 400) 0 := by unfold mx; split <;> omega
   rw [this]; exact x64 (by omega) (by omega)⟩
  rw [if_neg hz]
  by_cases ho : (dg q : Int) + max (t - 400) 0 > p
  ·rw [if_pos ho]
   have key : ∀ x : Bool, (∀ k, reals_exact_round.j1 (k + 1) (p : Int) how t neg y z u b (hiw q) (low q) = reals_exact_round.j2 k (p : Int) x neg y z u b) → (x = true ↔ (how = 0 ∨ how = 1 ∧ neg = false ∨ how = 2 ∧ neg = true)) → Ev (fun k => reals_exact_round.j1 k (p : Int) how t neg y z u b (hiw q) (low q)) (flat (if how = 0 ∨ how = 1 ∧ neg = false ∨ how = 2 ∧ neg = true then ((0, 0), 11) else real neg (10 ^ p - 1, 400))) := by
    intro x hx hiff
    have h : Ev (fun k => reals_exact_round.j1 k (p : Int) how t neg y z u b (hiw q) (low q)) _ := Ev.step hx (round_j2 p hp hp0 x neg y z u b)
    by_cases hc : how = 0 ∨ how = 1 ∧ neg = false ∨ how = 2 ∧ neg = true
    ·rw [if_pos (hiff.2 hc)] at h; rw [if_pos hc]; exact h
    ·rw [if_neg (fun h => hc (hiff.1 h))] at h; rw [if_neg hc]; exact h
   have hh : how = 0 ∨ how = 1 ∨ how = 2 ∨ how = 3 := by omega
   rcases hh with rfl | rfl | rfl | rfl
   ·refine key true (fun k => ?_) (by simp)
    simp only [reals_exact_round.j1]; rw [if_neg hb, hdg]; simp only [Option.bind_some]; rw [hw.out, if_pos ho, if_pos trivial]
   ·refine key (!neg) (fun k => ?_) (by cases neg <;> simp)
    simp only [reals_exact_round.j1]; rw [if_neg hb, hdg]; simp only [Option.bind_some]; rw [hw.out, if_pos ho, if_neg (by decide), if_pos trivial]
    cases neg
    ·rw [if_neg (by decide)]; rfl
    ·rw [if_pos rfl, if_neg (by decide)]; rfl
   ·refine key neg (fun k => ?_) (by cases neg <;> simp)
    simp only [reals_exact_round.j1]; rw [if_neg hb, hdg]; simp only [Option.bind_some]; rw [hw.out, if_pos ho, if_neg (by decide), if_neg (by decide), if_pos trivial]
   ·refine key false (fun k => ?_) (by simp)
    simp only [reals_exact_round.j1]; rw [if_neg hb, hdg]; simp only [Option.bind_some]; rw [hw.out, if_pos ho, if_neg (by decide), if_neg (by decide), if_neg (by decide)]
  ·rw [if_neg ho]
   refine Ev.step (fun k => ?_) (round_j3 neg y z u b q t hz hq ht ht2)
   simp only [reals_exact_round.j1]; rw [if_neg hb, hdg]; simp only [Option.bind_some]; rw [hw.out, if_neg ho]
theorem round_j0 (p : Nat) (hp : p ≤ 18) (hp0 : p ≠ 0) (how : Int) (h0 : 0 ≤ how) (h3 : how ≤ 3) (neg : Bool) (y z u : Int) (b : Bool) (q : Nat) (hq : q ≤ 10 ^ p) (d : Int) (ht : -40000 ≤ u + d) (ht2 : u + d ≤ 40000) :
  Ev (fun k => reals_exact_round.j0 k (p : Int) how d neg y z u b (hiw q) (low q)) (flat (fin p how neg q (u + d))) := by
 have h18 : 10 ^ p ≤ 10 ^ 18 := Nat.pow_le_pow_right (by decide) hp
 have hdg := pdig_is (n := q) (by omega)
 have hw : Aside0 (wrap64 (u + d) = u + d) := ⟨x64 (by omega) (by omega)⟩
 have hw2 : Aside0 (wrap64 (u + d + 1) = u + d + 1) := ⟨x64 (by omega) (by omega)⟩
 rw [← finP_is hp0 how neg hq]
 unfold finP
 by_cases h : dg q > p
 ·simp only [if_pos h]
  refine Ev.step (f := fun k => (reals_wide_over.f k (hiw q) (low q) 10).bind fun bt143 => reals_exact_round.j1 k p how (u + d + 1) neg y z u b bt143.1 bt143.2.1) (fun k => ?_) ?_
  ·simp only [reals_exact_round.j0]; rw [hdg]; simp only [Option.bind_some]; rw [if_pos (by omega), hw.out, hw2.out]
  refine Ev.bind (over_ev (c := 10) (by omega) (by decide) (by decide)) ?_
  exact round_j1 p hp hp0 how h0 h3 neg y z u b (q / 10) (by omega) (u + d + 1) (by omega) (by omega)
 ·simp only [if_neg h]
  refine Ev.step (fun k => ?_) (round_j1 p hp hp0 how h0 h3 neg y z u b q (by omega) (u + d) (by omega) (by omega))
  simp only [reals_exact_round.j0]; rw [hdg]; simp only [Option.bind_some]; rw [if_neg (by omega), hw.out]
theorem round_step (k : Nat) (neg : Bool) (H L e : Int) (more : Bool) (p how t d CH CL half : Int) (ine odd a : Bool) (hdg : reals_wide_digits.f H L = some t) (hdrop : mx (mx (wrap64 (t - p)) (wrap64 ((-400) - e))) 0 = d) (hcut : reals_wide_cut.f H L d more = some (CH, CL, half, ine)) (hodd : ((Go.bits .and .u64 CL 1) == 1) = odd) (ha : reals_exact_away.f neg H L e more how odd half ine = some a) :
  reals_exact_round.f k neg H L e more p how = if a = true then ((reals_wide_plus.f CH CL 0 1).bind fun bt140 => (reals_exact_round.j0 k p how d neg H L e more bt140.1 bt140.2)) else (reals_exact_round.j0 k p how d neg H L e more CH CL) := by
 unfold reals_exact_round.f; rw [hdg]; simp only [Option.bind_some]; rw [hdrop, hcut]; simp only [Option.bind_some]; rw [hodd, ha]; simp only [Option.bind_some]
theorem round_is {s : Int} (hs : er s = 0) (how : Int) (h0 : 0 ≤ how) (h3 : how ≤ 3) (neg : Bool) {n : Nat} (hn : n < 340282366920938463463374607431768211456) (e : Int) (he : -15000 ≤ e) (he2 : e ≤ 15000) (more : Bool) :
  Ev (fun k => reals_exact_round.f k neg (hiw n) (low n) e more (pd s) how) (flat (rnd (pd s) how neg n e more)) := by
 have hp := pd_of hs
 have hd := dg_small (n := n) (by omega)
 have hdg := pdig_is hn
 have hdrop : Aside0 (mx (mx (wrap64 (((dg n : Nat) : Int) - (pd s : Int))) (wrap64 ((-400) - e))) 0 = ((dropS (pd s) n e : Nat) : Int)) := ⟨by
  rw [x64 (n := ((dg n : Nat) : Int) - (pd s : Int)) (by omega) (by omega), x64 (by omega) (by omega)]
  unfold mx dropS; split <;> split <;> omega⟩
 have hD : dropS (pd s) n e ≤ 20000 := by unfold dropS; omega
 have hcut := pcut_is hn (d := dropS (pd s) n e) (by omega) more
 have hup := up_lt (pd s) how neg n e more
 have h18 : 10 ^ pd s ≤ 10 ^ 18 := Nat.pow_le_pow_right (by decide) (by omega)
 have hg : -400 ≤ e + (dropS (pd s) n e : Int) := by unfold dropS; omega
 unfold rnd
 generalize hc : cutG n (dropS (pd s) n e) more = c at *
 have hq0 : c.1 ≤ n := by
  rw [← hc]; unfold cutG; split
  ·exact Nat.le_refl _
  ·exact Nat.div_le_self _ _
 have hu := hl_u (n := c.1) (by omega)
 have hodd : ((Go.bits .and .u64 (low c.1) 1) == 1) = decide (c.1 % 2 = 1) := by
  have := hu.2.out; unfold u64s at this
  rw [and_one _ this.1 this.2, Bool.eq_iff_iff, beq_iff_eq, decide_eq_true_eq]
  unfold low; omega
 have hj := round_j0 (pd s) (by omega) (by omega) how h0 h3 neg (hiw n) (low n) e more (up how neg c) hup (dropS (pd s) n e) (by omega) (by omega)
 refine Ev.congr (f := fun k => if awayS how neg (decide (c.1 % 2 = 1)) c.2.1 c.2.2 = true then ((reals_wide_plus.f (hiw c.1) (low c.1) 0 1).bind fun bt140 => (reals_exact_round.j0 k (pd s) how (dropS (pd s) n e : Nat) neg (hiw n) (low n) e more bt140.1 bt140.2)) else (reals_exact_round.j0 k (pd s) how (dropS (pd s) n e : Nat) neg (hiw n) (low n) e more (hiw c.1) (low c.1))) (fun k => ?_) ?_
 ·exact round_step k neg _ _ e more _ how _ _ _ _ _ _ _ _ hdg hdrop.out hcut hodd (paway_is how h0 h3 neg _ _ e more _ _ _)
 by_cases ha : awayS how neg (decide (c.1 % 2 = 1)) c.2.1 c.2.2 = true
 ·have huu : up how neg c = c.1 + 1 := by unfold up; rw [if_pos ha]
  have hpl := plus_is (n := c.1) (m := 1) (by omega)
  rw [show hiw 1 = 0 from rfl, show low 1 = 1 from rfl] at hpl
  refine Ev.congr (fun k => ?_) hj
  rw [if_pos ha, hpl, huu]; rfl
 ·have huu : up how neg c = c.1 := by unfold up; rw [if_neg ha]; rfl
  refine Ev.congr (fun k => ?_) hj
  rw [if_neg ha, huu]
theorem pof_is {m e : Int} (h : -9223372036854775808 ≤ m) (h' : m ≤ 9223372036854775807) : reals_of.f m e = some (decide (m < 0), hiw m.natAbs, low m.natAbs, e, false) := by
 unfold reals_of.f; rw [mag_is h h']; rfl
theorem make_in (k : Nat) (p how m e : Int) (x1 : Bool) (x2 x3 : Int) (hof : reals_of.f m e = some (x1, x2, x3, e, false)) : (if (((p, 0) : Int × Int)).2 = 0 then ((reals_of.f m e).bind fun bt158 => ((reals_exact_round.f k bt158.1 bt158.2.1 bt158.2.2.1 bt158.2.2.2.1 bt158.2.2.2.2 (((p, 0) : Int × Int)).1 how).bind fun bt163 => (some (bt163.1, bt163.2.1, bt163.2.2)))) else (some (0, 0, (((p, 0) : Int × Int)).2))) = (reals_exact_round.f k x1 x2 x3 e false p how).bind fun bt163 => some (bt163.1, bt163.2.1, bt163.2.2) := by
 rw [if_pos rfl, hof]; rfl
theorem pmake_is (s how m e : Int) (hm : -9223372036854775808 ≤ m) (hm2 : m ≤ 9223372036854775807) : Ev (fun k => reals_Make.f k s how m e) (makeS s how m e) := by
 have hk := check_is s how [] (by simp) (by simp)
 unfold reals_Make.f makeS
 refine Ev.bind hk ?_
 unfold checkS
 by_cases hc : er s = 0 ∧ 0 ≤ how ∧ how ≤ 3
 ·rw [if_pos hc, if_pos hc]
  have hr := round_is hc.1 how hc.2.1 hc.2.2 (decide (m < 0)) (n := m.natAbs) (two128 (by omega)) (min (max e (-1000)) 1000) (by omega) (by omega) false
  have he : mn (mx e (-1000)) 1000 = min (max e (-1000)) 1000 := by unfold mn mx; split <;> split <;> omega
  refine Ev.congr (fun k => ?_) (Ev.bind hr (Ev.now (flat _)))
  simp only [List.all_nil, if_true, he]
  exact make_in k _ how m _ _ _ _ (pof_is hm hm2)
 ·rw [if_neg hc, if_neg hc]
  exact Ev.congr (fun k => by rw [if_neg (by decide)]) (Ev.now _)
end Go.Proofs.YtckbmniiecbalaaGreatDoor.PT.Rr
