import Derived.Test.YtamkjpjibkabaaaOpsW
import Derived.Test.YtamkjpjibkabaaaPRHw
import Derived.Test.YtamkjpjibkabaaaPRgE
import Derived.Test.YtamkjpjibkabaaaPRgRf
import Derived.Test.YtamkjpjibkabaaaPRgRg
import Derived.Test.YtamkjpjibkabaaaPRgRd
import Derived.Test.YtamkjpjibkabaaaPRgRc
import Derived.Test.YtamkjpjibkabaaaPRgRb
import Derived.Test.YtamkjpjibkabaaaPRgRj
import Derived.Test.YtamkjpjibkabaaaPRgRk
namespace Go.Proofs.Ytamkjpjibkabaaa.PR
open Go.RowKit Go.Proofs.YtamkjpjibkabaaaW.PrintWords Go.Proofs.YtamkjpjibkabaaaW.PrintLast Go.Proofs.YtamkjpjibkabaaaW.PrintMore
set_option linter.unusedVariables false
set_option linter.unusedSimpArgs false
/-- the digits of a number, the last one first -/
def dl (n : Nat) : List Int := if h : n = 0 then [] else ((n % 10 : Nat) : Int) :: dl (n / 10)
decreasing_by omega
theorem dl_zero : dl 0 = [] := by unfold dl; simp
theorem dl_pos {n : Nat} (h : n ≠ 0) : dl n = ((n % 10 : Nat) : Int) :: dl (n / 10) := by rw [dl]; simp [h]
/-- the number that digits are -/
def vl : List Int → Nat | [] => 0 | d :: l => d.toNat + 10 * vl l
def Dg (l : List Int) : Prop := ∀ d ∈ l, 0 ≤ d ∧ d < 10
theorem Dg.nil : Dg [] := fun _ h => by cases h
theorem Dg.cons {d : Int} {l : List Int} (h0 : 0 ≤ d) (h1 : d < 10) (h : Dg l) : Dg (d :: l) := by
  intro x hx; rcases List.mem_cons.1 hx with rfl | hx
  · exact ⟨h0, h1⟩
  · exact h x hx
theorem Dg.tail {d : Int} {l : List Int} (h : Dg (d :: l)) : Dg l := fun x hx => h x (List.mem_cons_of_mem _ hx)
theorem Dg.head {d : Int} {l : List Int} (h : Dg (d :: l)) : 0 ≤ d ∧ d < 10 := h d (List.mem_cons_self ..)
theorem Dg.append {a b : List Int} (ha : Dg a) (hb : Dg b) : Dg (a ++ b) := by
  intro x hx; rcases List.mem_append.1 hx with h | h
  · exact ha x h
  · exact hb x h
theorem Dg.take {a : List Int} (ha : Dg a) (k : Nat) : Dg (a.take k) := fun x hx => ha x (List.mem_of_mem_take hx)
theorem Dg.drop {a : List Int} (ha : Dg a) (k : Nat) : Dg (a.drop k) := fun x hx => ha x (List.mem_of_mem_drop hx)
theorem vl_dl (n : Nat) : vl (dl n) = n := by
  induction n using Nat.strongRecOn with
  | ind n ih =>
    by_cases h : n = 0
    · subst h; rw [dl_zero]; rfl
    · rw [dl_pos h]; simp only [vl]; rw [ih (n / 10) (by omega)]; omega
theorem dg_dl (n : Nat) : Dg (dl n) := by
  induction n using Nat.strongRecOn with
  | ind n ih =>
    by_cases h : n = 0
    · subst h; rw [dl_zero]; exact Dg.nil
    · rw [dl_pos h]; exact Dg.cons (by omega) (by omega) (ih (n / 10) (by omega))
theorem len_dl (n : Nat) : (dl n).length = dg n := by
  induction n using Nat.strongRecOn with
  | ind n ih =>
    by_cases h : n = 0
    · subst h; rw [dl_zero, dg_zero]; rfl
    · rw [dl_pos h, dg_pos h, List.length_cons, ih (n / 10) (by omega)]
theorem vl_append (a b : List Int) : vl (a ++ b) = vl a + 10 ^ a.length * vl b := by
  induction a with
  | nil => simp [vl]
  | cons d a ih => simp only [List.cons_append, vl, ih, List.length_cons, Nat.pow_succ, Nat.mul_add]; rw [← Nat.mul_assoc, Nat.mul_comm 10 (10 ^ _)]; omega
theorem vl_lt {l : List Int} (h : Dg l) : vl l < 10 ^ l.length := by
  induction l with
  | nil => simp [vl]
  | cons d l ih => have a := ih h.tail; have b := h.head; simp only [vl, List.length_cons, Nat.pow_succ]; omega
/-- digits without a 0 at the end are those of their number -/
theorem dl_of {l : List Int} (h : Dg l) (hl : ∀ x, l.getLast? = some x → x ≠ 0) : l = dl (vl l) := by
  induction l with
  | nil => rw [vl, dl_zero]
  | cons d l ih =>
    have hd := h.head
    have hz : vl (d :: l) ≠ 0 := by
      intro h0
      simp only [vl] at h0
      have hd0 : d = 0 := by omega
      have hv0 : vl l = 0 := by omega
      cases l with
      | nil => exact hl d rfl hd0
      | cons e m =>
        have h' := ih h.tail (fun x hx => hl x (by rw [List.getLast?_cons_cons]; exact hx))
        rw [hv0, dl_zero] at h'; cases h'
    rw [dl_pos hz]
    have e1 : vl (d :: l) % 10 = d.toNat := by simp only [vl]; omega
    have e2 : vl (d :: l) / 10 = vl l := by simp only [vl]; omega
    rw [e1, e2]
    cases l with
    | nil => simp [vl, dl_zero]; omega
    | cons e m =>
      rw [← ih h.tail (fun x hx => hl x (by rw [List.getLast?_cons_cons]; exact hx))]
      congr 1; omega
theorem dl_drop (k n : Nat) : (dl n).drop k = dl (n / 10 ^ k) := by
  induction k generalizing n with
  | zero => simp
  | succ k ih =>
    by_cases h : n = 0
    · subst h; simp [dl_zero]
    · rw [dl_pos h, List.drop_succ_cons, ih, Nat.div_div_eq_div_mul, Nat.pow_succ, Nat.mul_comm 10]
theorem vl_take (k n : Nat) : vl ((dl n).take k) = n % 10 ^ k := by
  induction k generalizing n with
  | zero => simp [vl, Nat.mod_one]
  | succ k ih =>
    by_cases h : n = 0
    · subst h; simp [dl_zero, vl]
    · rw [dl_pos h, List.take_succ_cons, vl, ih, Nat.pow_succ, Nat.mul_comm (10 ^ k), Nat.mod_mul]
      omega
theorem dl_get {n i : Nat} (h : i < (dl n).length) : (dl n)[i] = ((n / 10 ^ i % 10 : Nat) : Int) := by
  have e := dl_drop i n
  rw [List.drop_eq_getElem_cons h] at e
  by_cases hz : n / 10 ^ i = 0
  · rw [hz, dl_zero] at e; cases e
  · rw [dl_pos hz] at e; exact (List.cons.inj e).1
theorem dl_len_le {n i : Nat} (h : (dl n).length ≤ i) : n / 10 ^ i = 0 := by
  have e := dl_drop i n
  rw [List.drop_eq_nil_of_le h] at e
  have := vl_dl (n / 10 ^ i); rw [← e] at this; exact this.symm
/-- the value of digits, one more at the end -/
theorem vl_snoc (l : List Int) (d : Int) : vl (l ++ [d]) = vl l + 10 ^ l.length * d.toNat := by rw [vl_append]; simp [vl]
theorem dg_one : dg 1 = 1 := by rw [dg_pos (by decide), show 1 / 10 = 0 from rfl, dg_zero]
theorem p10 (k : Nat) : 0 < 10 ^ k := Nat.pow_pos (by decide)
theorem dg_le_iff {n k : Nat} : dg n ≤ k ↔ n < 10 ^ k := by
  constructor
  · intro h; exact Nat.lt_of_lt_of_le (dg_lt n) (Nat.pow_le_pow_right (by decide) h)
  · intro h
    by_cases hz : n = 0
    · subst hz; rw [dg_zero]; omega
    · have := Nat.lt_of_le_of_lt (dg_le hz) h
      have := (Nat.pow_lt_pow_iff_right (show 1 < 10 by decide)).1 this
      omega
theorem dg_mul {n : Nat} (h : n ≠ 0) (k : Nat) : dg (n * 10 ^ k) = dg n + k := by
  have hd : dg n ≠ 0 := by have := dg_pos h; omega
  refine dg_is ?_ (.inr ?_)
  · rw [Nat.pow_add]; exact Nat.mul_lt_mul_of_pos_right (dg_lt n) (p10 k)
  · have : dg n + k - 1 = dg n - 1 + k := by omega
    rw [this, Nat.pow_add]; exact Nat.mul_le_mul_right _ (dg_le h)
theorem dg_add {n k s : Nat} (h : n ≠ 0) (hs : s < 10 ^ k) : dg (n * 10 ^ k + s) = dg n + k := by
  have hd : dg n ≠ 0 := by have := dg_pos h; omega
  refine dg_is ?_ (.inr ?_)
  · rw [Nat.pow_add]
    have h1 : (n + 1) * 10 ^ k ≤ 10 ^ dg n * 10 ^ k := Nat.mul_le_mul_right _ (dg_lt n)
    rw [Nat.add_mul, Nat.one_mul] at h1; omega
  · have : dg n + k - 1 = dg n - 1 + k := by omega
    rw [this, Nat.pow_add]; have := Nat.mul_le_mul_right (10 ^ k) (dg_le h); omega
theorem dg_div (n k : Nat) : dg (n / 10 ^ k) = dg n - k := by
  by_cases hz : n / 10 ^ k = 0
  · rw [hz, dg_zero]
    have : n < 10 ^ k := by
      rcases Nat.div_eq_zero_iff.1 hz with h | h
      · have := p10 k; omega
      · exact h
    have := dg_le_iff.2 this; omega
  · have e := Nat.div_add_mod n (10 ^ k)
    have hm := Nat.mod_lt n (p10 k)
    have := dg_add hz hm
    rw [Nat.mul_comm] at e
    rw [e] at this; omega
/-- how what is dropped compares to a half -/
def sdS (r m : Nat) (more : Bool) : Int := if r = m - r then (if more = true then 1 else 0) else if r < m - r then -1 else 1
/-- d digits dropped -/
def cutG (n d : Nat) (more : Bool) : Nat × Int × Bool := if d = 0 then (n, -1, more) else (n / 10 ^ d, sdS (n % 10 ^ d) (10 ^ d) more, more || decide (n % 10 ^ d ≠ 0))
def awayS (how : Int) (neg odd : Bool) (half : Int) (inexact : Bool) : Bool := if how = 0 then decide (half > 0) || (decide (half = 0) && odd) else if how = 1 then !neg && inexact else if how = 2 then neg && inexact else false
/-- the zeros at the end go over to the exponent -/
def strip (n : Nat) (e : Int) : Nat × Int := if h : n = 0 then (0, 0) else if n % 10 = 0 then strip (n / 10) (e + 1) else (n, e)
decreasing_by omega
def sgn (neg : Bool) (n : Nat) : Int := if neg = true then -(n : Int) else n
def real (neg : Bool) (x : Nat × Int) : (Int × Int) × Int := ((sgn neg x.1, x.2), 0)
def fin (p : Nat) (how : Int) (neg : Bool) (q : Nat) (t : Int) : (Int × Int) × Int :=
  if q = 0 then ((0, 0), 0) else if dg q + t > p + 400 then (if how = 0 ∨ how = 1 ∧ neg = false ∨ how = 2 ∧ neg = true then ((0, 0), 11) else real neg (10 ^ p - 1, 400)) else real neg (strip q t)
def dropS (p n : Nat) (e : Int) : Nat := max (dg n - p) (-400 - e).toNat
def up (how : Int) (neg : Bool) (c : Nat × Int × Bool) : Nat := c.1 + if awayS how neg (decide (c.1 % 2 = 1)) c.2.1 c.2.2 = true then 1 else 0
/-- a number rounded to p digits -/
def rnd (p : Nat) (how : Int) (neg : Bool) (n : Nat) (e : Int) (more : Bool) : (Int × Int) × Int := fin p how neg (up how neg (cutG n (dropS p n e) more)) (e + dropS p n e)
theorem strip_mul (n : Nat) (e : Int) (k : Nat) : strip (n * 10 ^ k) (e - k) = strip n e := by
  by_cases hz : n = 0
  · subst hz; rw [Nat.zero_mul]; unfold strip; simp
  · induction k generalizing e with
    | zero => simp
    | succ k ih =>
      rw [strip]
      have h0 : n * 10 ^ (k + 1) ≠ 0 := Nat.mul_ne_zero hz (by have := p10 (k + 1); omega)
      have h1 : n * 10 ^ (k + 1) % 10 = 0 := by rw [Nat.pow_succ, ← Nat.mul_assoc]; exact Nat.mul_mod_left _ _
      have h2 : n * 10 ^ (k + 1) / 10 = n * 10 ^ k := by rw [Nat.pow_succ, ← Nat.mul_assoc]; exact Nat.mul_div_cancel _ (by decide)
      rw [dif_neg h0, if_pos h1, h2, show e - ((k + 1 : Nat) : Int) + 1 = e - k by omega]
      exact ih e
theorem strip_ten (p : Nat) (t : Int) : strip (10 ^ p) t = (1, t + p) := by
  have h := strip_mul 1 (t + p) p
  rw [Nat.one_mul, show t + p - p = t by omega] at h
  rw [h]; unfold strip; simp
/-- the sticky rule: what stands behind the digits that are kept and the first one that is dropped counts only as more -/
theorem cut_sticky (n k s d : Nat) (more : Bool) (hs : s < 10 ^ k) (hd : d ≠ 0) : cutG (n * 10 ^ k + s) (d + k) more = cutG n d (more || decide (s ≠ 0)) := by
  unfold cutG
  rw [if_neg (by omega), if_neg hd]
  have hk := p10 k
  have hdp := p10 d
  have e1 : (n * 10 ^ k + s) / 10 ^ (d + k) = n / 10 ^ d := by
    rw [Nat.pow_add, Nat.mul_comm (10 ^ d), ← Nat.div_div_eq_div_mul, Nat.mul_comm n, Nat.mul_add_div hk, Nat.div_eq_of_lt hs, Nat.add_zero]
  have e2 : (n * 10 ^ k + s) % 10 ^ (d + k) = n % 10 ^ d * 10 ^ k + s := by
    rw [Nat.pow_add, Nat.mul_comm (10 ^ d), Nat.mod_mul, Nat.mul_comm n, Nat.mul_add_mod, Nat.mod_eq_of_lt hs, Nat.mul_add_div hk, Nat.div_eq_of_lt hs, Nat.add_zero, Nat.mul_comm (10 ^ k)]; omega
  rw [e1, e2]
  generalize hr : n % 10 ^ d = r
  have hr1 : r < 10 ^ d := by rw [← hr]; exact Nat.mod_lt _ hdp
  have e3 : 10 ^ (d + k) = 10 ^ d * 10 ^ k := Nat.pow_add ..
  obtain ⟨m, hm⟩ : ∃ m, 10 ^ d = 2 * m := ⟨5 * 10 ^ (d - 1), by
    have : d = d - 1 + 1 := by omega
    rw [this, Nat.pow_succ, Nat.add_sub_cancel]; omega⟩
  rw [e3, hm]
  rw [hm] at hr1
  generalize 10 ^ k = K at *
  congr 2
  · unfold sdS
    -- compare r with m
    rcases Nat.lt_trichotomy r m with h | h | h
    · have a1 : r * K + K ≤ m * K := by rw [← Nat.succ_mul]; exact Nat.mul_le_mul_right _ h
      have a2 : 2 * m * K = m * K + m * K := by rw [Nat.mul_assoc]; omega
      rw [a2]
      rw [if_neg (by omega), if_pos (by omega), if_neg (by omega), if_pos (by omega)]
    · subst h
      have a2 : 2 * r * K = r * K + r * K := by rw [Nat.mul_assoc]; omega
      rw [a2]
      by_cases hz : s = 0
      · subst hz; rw [if_pos (by omega), if_pos (by omega : r = 2 * r - r)]; simp
      · rw [if_neg (by omega), if_neg (by omega), if_pos (by omega : r = 2 * r - r)]; simp [hz]
    · have a1 : m * K + K ≤ r * K := by rw [← Nat.succ_mul]; exact Nat.mul_le_mul_right _ h
      have a2 : 2 * m * K = m * K + m * K := by rw [Nat.mul_assoc]; omega
      rw [a2]
      rw [if_neg (by omega), if_neg (by omega), if_neg (by omega), if_neg (by omega)]
  · have : (r * K + s ≠ 0) ↔ (s ≠ 0 ∨ r ≠ 0) := by
      constructor
      · intro h; by_cases hs0 : s = 0
        · right; rintro rfl; apply h; rw [hs0]; simp
        · exact .inl hs0
      · rintro (h | h)
        · omega
        · have := Nat.mul_pos (Nat.pos_of_ne_zero h) hk; omega
    have h3 : decide (r * K + s ≠ 0) = (decide (s ≠ 0) || decide (r ≠ 0)) := by rw [← Bool.decide_or, decide_eq_decide]; exact this
    rw [h3, Bool.or_assoc]
theorem rnd_sticky (p : Nat) (how : Int) (neg : Bool) (n : Nat) (e : Int) (k s : Nat) (more : Bool) (hs : s < 10 ^ k) (hn : dropS p n e ≠ 0) (hz : n ≠ 0) :
    rnd p how neg (n * 10 ^ k + s) (e - k) more = rnd p how neg n e (more || decide (s ≠ 0)) := by
  unfold rnd
  have hd : dropS p (n * 10 ^ k + s) (e - k) = dropS p n e + k := by
    unfold dropS at *; rw [dg_add hz hs]; omega
  rw [hd, cut_sticky n k s _ more hs hn]
  congr 1; omega
theorem cut_exact (n k : Nat) (d : Nat) (h : d ≤ k) : cutG (n * 10 ^ k) d false = (n * 10 ^ (k - d), -1, false) := by
  unfold cutG
  split
  · rename_i hd; subst hd; simp
  · have e : 10 ^ k = 10 ^ (k - d) * 10 ^ d := by rw [← Nat.pow_add]; congr 1; omega
    have hp := p10 d
    rw [e, ← Nat.mul_assoc, Nat.mul_mod_left, Nat.mul_div_cancel _ hp]
    unfold sdS; rw [if_neg (by omega), if_pos (by omega)]; simp
theorem up_exact (how : Int) (neg : Bool) (q : Nat) : up how neg (q, -1, false) = q := by
  unfold up awayS; simp
theorem fin_mul (p : Nat) (how : Int) (neg : Bool) (n : Nat) (t : Int) (k : Nat) : fin p how neg (n * 10 ^ k) (t - k) = fin p how neg n t := by
  by_cases hz : n = 0
  · subst hz; unfold fin; simp
  · unfold fin
    have h0 : n * 10 ^ k ≠ 0 := Nat.mul_ne_zero hz (by have := p10 k; omega)
    rw [if_neg h0, if_neg hz, dg_mul hz, strip_mul]
    congr 1
    simp only [eq_iff_iff]; omega
/-- an exact number may be written with more zeros -/
theorem rnd_scale (p : Nat) (how : Int) (neg : Bool) (n : Nat) (e : Int) (k : Nat) : rnd p how neg (n * 10 ^ k) (e - k) false = rnd p how neg n e false := by
  by_cases hz : n = 0
  · subst hz; unfold rnd; rw [Nat.zero_mul]
    have h : ∀ d, cutG 0 d false = (0, -1, false) := by
      intro d; have := cut_exact 0 d d (Nat.le_refl _); simpa using this
    rw [h, h, up_exact]; unfold fin; simp
  · by_cases hd : dropS p n e = 0
    · have h1 : dropS p (n * 10 ^ k) (e - k) ≤ k := by unfold dropS at *; rw [dg_mul hz]; omega
      unfold rnd
      rw [cut_exact n k _ h1, up_exact, hd, show cutG n 0 false = (n, -1, false) from rfl, up_exact]
      have := fin_mul p how neg n e (k - dropS p (n * 10 ^ k) (e - k))
      rw [Int.natCast_zero, Int.add_zero, ← this]; congr 1; omega
    · have := rnd_sticky p how neg n e k 0 false (p10 k) hd hz
      simpa using this
theorem up_le (how : Int) (neg : Bool) (n d : Nat) (more : Bool) : n / 10 ^ d ≤ up how neg (cutG n d more) ∧ up how neg (cutG n d more) ≤ n / 10 ^ d + 1 := by
  unfold up cutG
  split
  · rename_i h; subst h; rw [Nat.pow_zero, Nat.div_one]; simp only; split <;> omega
  · simp only; split <;> omega
theorem drop_lt (p n : Nat) (e : Int) : n / 10 ^ dropS p n e < 10 ^ p := by
  rw [← dg_le_iff, dg_div]; unfold dropS; omega
theorem up_lt (p : Nat) (how : Int) (neg : Bool) (n : Nat) (e : Int) (more : Bool) : up how neg (cutG n (dropS p n e) more) ≤ 10 ^ p := by
  have := up_le how neg n (dropS p n e) more
  have := drop_lt p n e
  omega
/-- the end of the rounding as the program does it -/
def finP (p : Nat) (how : Int) (neg : Bool) (q : Nat) (t : Int) : (Int × Int) × Int :=
  let q1 := if dg q > p then q / 10 else q
  let t1 := if dg q > p then t + 1 else t
  if q1 = 0 then ((0, 0), 0) else if dg q1 + max (t1 - 400) 0 > p then (if how = 0 ∨ how = 1 ∧ neg = false ∨ how = 2 ∧ neg = true then ((0, 0), 11) else real neg (10 ^ p - 1, 400)) else real neg (strip q1 t1)
theorem finP_is {p : Nat} (hp : p ≠ 0) (how : Int) (neg : Bool) {q : Nat} (hq : q ≤ 10 ^ p) (t : Int) : finP p how neg q t = fin p how neg q t := by
  unfold finP fin
  by_cases h : dg q > p
  · have h1 : ¬ q < 10 ^ p := fun h' => by have := dg_le_iff.2 h'; omega
    obtain rfl : q = 10 ^ p := by omega
    have e1 : dg (10 ^ p) = p + 1 := by have := dg_mul (n := 1) (by decide) p; rw [Nat.one_mul] at this; rw [this, dg_one]; omega
    have e2 : 10 ^ p / 10 = 10 ^ (p - 1) := by
      have : p = p - 1 + 1 := by omega
      rw [this, Nat.pow_succ, Nat.add_sub_cancel]; omega
    have e3 : dg (10 ^ (p - 1)) = p := by
      have := dg_mul (n := 1) (by decide) (p - 1); rw [Nat.one_mul] at this; rw [this, dg_one]; omega
    have z1 := p10 (p - 1)
    have z2 := p10 p
    simp only [if_pos h, e2]
    rw [if_neg (Nat.ne_of_gt z1), if_neg (Nat.ne_of_gt z2), e1, e3, strip_ten, strip_ten]
    have e4 : t + 1 + ((p - 1 : Nat) : Int) = t + p := by omega
    rw [e4]
    congr 1
    simp only [eq_iff_iff]; omega
  · simp only [if_neg h]
    by_cases hz : q = 0
    · rw [if_pos hz, if_pos hz]
    · rw [if_neg hz, if_neg hz]
      congr 1
      simp only [eq_iff_iff]; omega
/-- a valid number -/
structure Ok (p n : Nat) (e : Int) : Prop where
  z : n = 0 → e = 0
  t : n ≠ 0 → n % 10 ≠ 0
  d : dg n ≤ p
  l : -400 ≤ e
  h : e + dg n ≤ p + 400
theorem strip_ok {n : Nat} {e : Int} (h : n = 0 → e = 0) (h2 : n ≠ 0 → n % 10 ≠ 0) : strip n e = (n, e) := by
  unfold strip
  by_cases hz : n = 0
  · rw [dif_pos hz, hz, h hz]
  · rw [dif_neg hz, if_neg (h2 hz)]
theorem rnd_ok {p n : Nat} {e : Int} (how : Int) (neg : Bool) (h : Ok p n e) : rnd p how neg n e false = real neg (n, e) := by
  have hd : dropS p n e = 0 := by have := h.d; have := h.l; unfold dropS; omega
  unfold rnd
  rw [hd, show cutG n 0 false = (n, -1, false) from rfl, up_exact]
  unfold fin
  by_cases hz : n = 0
  · rw [if_pos hz, hz, h.z hz]; unfold real sgn; cases neg <;> rfl
  · rw [if_neg hz, if_neg (by have := h.h; omega)]
    rw [strip_ok (fun _ => by omega) h.t]; simp
theorem x64 {n : Int} (h : -9223372036854775808 ≤ n) (h' : n ≤ 9223372036854775807) : wrap64 n = n := by
  unfold wrap64; omega
theorem rd_dl {n i : Nat} (h : i < (dl n).length) : rd (dl n) (i : Int) = ((n / 10 ^ i % 10 : Nat) : Int) := by
  unfold rd; rw [Int.toNat_natCast, List.getD_eq_getElem?_getD, List.getElem?_eq_getElem h]; exact dl_get h
theorem rd_nat (l : List Int) (i : Nat) : rd l (i : Int) = l.getD i 0 := by unfold rd; rw [Int.toNat_natCast]
theorem trim_l0 : ∀ (n : Nat) (l : List Int), l.length = n → n ≤ 1000000 → Dg l → Ev (fun k => environref02_trim.l0 k l) (dl (vl l)) := by
  intro n
  induction n with
  | zero =>
    intro l hl _ _
    obtain rfl : l = [] := List.eq_nil_of_length_eq_zero hl
    refine Ev.step (f := fun _ => some []) (fun k => ?_) (by rw [vl, dl_zero]; exact Ev.now _)
    simp only [environref02_trim.l0]; rw [if_neg (by simp)]
  | succ n ih =>
    intro l hl hn hd
    have hw : Aside0 (wrap64 ((l.length : Int) - 1) = (n : Int)) := ⟨by rw [x64 (by omega) (by omega)]; omega⟩
    have hlast : l.getLast? = some (l[n]'(by omega)) := by rw [List.getLast?_eq_getElem?, List.getElem?_eq_getElem (by omega)]; congr 1; simp [hl]
    have hrd : rd l (n : Int) = l[n]'(by omega) := by rw [rd_nat, List.getD_eq_getElem?_getD, List.getElem?_eq_getElem (by omega)]; rfl
    by_cases h0 : l[n]'(by omega) = 0
    · have ht : vl l = vl (l.take n) := by
        have e : l = l.take n ++ [0] := by
          have := List.take_succ_eq_append_getElem (l := l) (i := n) (by omega)
          rw [List.take_of_length_le (by omega), h0] at this; exact this
        have h2 := congrArg vl e
        rw [vl_snoc] at h2; rw [h2]; simp
      refine Ev.step (f := fun k => environref02_trim.l0 k (l.take n)) (fun k => ?_) (by rw [ht]; exact ih (l.take n) (by rw [List.length_take]; omega) (by omega) (hd.take n))
      simp only [environref02_trim.l0]; rw [hw.out, hrd, if_pos (by omega), if_pos (by omega), if_pos (by omega), if_pos h0, if_pos (by omega), Int.toNat_natCast]
    · refine Ev.step (f := fun _ => some l) (fun k => ?_) ?_
      · simp only [environref02_trim.l0]; rw [hw.out, hrd, if_pos (by omega), if_pos (by omega), if_pos (by omega), if_neg h0]
      · rw [← dl_of hd (fun x hx => by rw [hlast] at hx; cases hx; exact h0)]; exact Ev.now _
theorem trim_is {l : List Int} (hl : l.length ≤ 1000000) (hd : Dg l) : Ev (fun k => environref02_trim.f k l) (dl (vl l)) := trim_l0 _ l rfl hl hd
theorem of_l0 : ∀ (n : Nat) (m : Int) (x : List Int), m.natAbs = n → n ≤ 9223372036854775808 → m ≤ 9223372036854775807 → x.length + dg n ≤ 1000000 → Ev (fun k => environref02_Of.l0 k m x) (x ++ dl n) := by
  intro n
  induction n using Nat.strongRecOn with
  | ind n ih =>
    intro m x hm hn hn2 hx
    by_cases h0 : m = 0
    · subst h0
      obtain rfl : n = 0 := by omega
      rw [dl_zero, List.append_nil]
      refine Ev.step (f := fun _ => some x) (fun k => ?_) (Ev.now _)
      simp only [environref02_Of.l0]; rw [if_pos trivial]
    · have hz : n ≠ 0 := by omega
      have hdp := dg_pos hz
      have e1 : Int.tdiv m 10 = if m < 0 then -((n / 10 : Nat) : Int) else ((n / 10 : Nat) : Int) := by
        split
        · have : m = -((n : Nat) : Int) := by omega
          rw [this, Int.neg_tdiv, Int.tdiv_eq_ediv_of_nonneg (by omega)]; omega
        · have : m = ((n : Nat) : Int) := by omega
          rw [this, Int.tdiv_eq_ediv_of_nonneg (by omega)]; omega
      have e2 : Int.tmod m 10 = if m < 0 then -((n % 10 : Nat) : Int) else ((n % 10 : Nat) : Int) := by
        split
        · have : m = -((n : Nat) : Int) := by omega
          rw [this, Int.neg_tmod, Int.tmod_eq_emod_of_nonneg (by omega)]; omega
        · have : m = ((n : Nat) : Int) := by omega
          rw [this, Int.tmod_eq_emod_of_nonneg (by omega)]; omega
      have hw : Aside0 (wrap64 (Int.tdiv m 10) = Int.tdiv m 10) := ⟨x64 (by rw [e1]; split <;> omega) (by rw [e1]; split <;> omega)⟩
      have hr : x ++ dl n = (x ++ [((n % 10 : Nat) : Int)]) ++ dl (n / 10) := by rw [dl_pos hz, List.append_assoc]; rfl
      rw [hr]
      refine Ev.step (f := fun k => environref02_Of.l0 k (Int.tdiv m 10) (x ++ [((n % 10 : Nat) : Int)])) (fun k => ?_) (ih (n / 10) (by omega) _ _ (by rw [e1]; split <;> omega) (by omega) (by rw [e1]; split <;> omega) (by rw [List.length_append, List.length_singleton]; omega))
      simp only [environref02_Of.l0]
      rw [if_neg h0, hw.out]
      by_cases hneg : Int.tmod m 10 < 0
      · rw [if_pos hneg, if_pos (by omega)]
        rw [e2] at hneg ⊢
        split at hneg
        · rename_i hm0; rw [if_pos hm0, Int.neg_neg, x64 (by omega) (by omega)]
        · omega
      · rw [if_neg hneg, if_pos (by omega)]
        rw [e2] at hneg ⊢
        split at hneg
        · rename_i hm0; rw [if_pos hm0]; have : n % 10 = 0 := by omega
          rw [this]; rfl
        · rename_i hm0; rw [if_neg hm0]
theorem dg_small {n : Nat} (h : n ≤ 340282366920938463463374607431768211456) : dg n ≤ 39 := by
  have : n < 10 ^ 39 := by omega
  by_cases hz : n = 0
  · subst hz; rw [dg_zero]; omega
  · have := Nat.lt_of_le_of_lt (dg_le hz) this
    have := (Nat.pow_lt_pow_iff_right (show 1 < 10 by decide)).1 this
    omega
theorem of_is {m : Int} (h : -9223372036854775808 ≤ m) (h' : m ≤ 9223372036854775807) : Ev (fun k => environref02_Of.f k m) (dl m.natAbs) := by
  have := dg_small (n := m.natAbs) (by omega)
  have h := of_l0 m.natAbs m [] rfl (by omega) h' (by simp; omega)
  rw [List.nil_append] at h; exact h
def cmp (a b : Nat) : Int := if a = b then 0 else if a < b then -1 else 1
theorem cmp_l0 (a b : Nat) (hl : (dl a).length = (dl b).length) (hs : (dl a).length ≤ 1000000) : ∀ j : Nat, j ≤ (dl a).length → a / 10 ^ j = b / 10 ^ j → Ev (fun k => environref02_compare.l0 k (dl a) (dl b) ((j : Int) - 1)) (cmp a b) := by
  intro j
  induction j with
  | zero =>
    intro _ h
    rw [Nat.pow_zero, Nat.div_one, Nat.div_one] at h
    subst h
    refine Ev.step (f := fun _ => some 0) (fun k => ?_) (by unfold cmp; rw [if_pos rfl]; exact Ev.now _)
    simp only [environref02_compare.l0]; rw [if_neg (by omega)]
  | succ j ih =>
    intro hj h
    have e : ((j + 1 : Nat) : Int) - 1 = (j : Int) := by omega
    rw [e]
    have ra := rd_dl (n := a) (i := j) (by omega)
    have rb := rd_dl (n := b) (i := j) (by omega)
    rw [Nat.pow_succ, ← Nat.div_div_eq_div_mul, ← Nat.div_div_eq_div_mul] at h
    generalize hA : a / 10 ^ j = A at *
    generalize hB : b / 10 ^ j = B at *
    by_cases h1 : A % 10 < B % 10
    · have hab : a < b := by
        have : A < B := by omega
        rw [← hA, ← hB] at this
        exact Nat.lt_of_not_le fun hle => by have := Nat.div_le_div_right (c := 10 ^ j) hle; omega
      refine Ev.step (f := fun _ => some (-1)) (fun k => ?_) (by unfold cmp; rw [if_neg (by omega), if_pos hab]; exact Ev.now _)
      simp only [environref02_compare.l0]; rw [if_pos (by omega), if_pos (by omega), if_pos (by omega), if_pos (by omega), ra, rb, if_pos (by omega)]
    · by_cases h2 : B % 10 < A % 10
      · have hab : b < a := by
          have : B < A := by omega
          rw [← hA, ← hB] at this
          exact Nat.lt_of_not_le fun hle => by have := Nat.div_le_div_right (c := 10 ^ j) hle; omega
        refine Ev.step (f := fun _ => some 1) (fun k => ?_) (by unfold cmp; rw [if_neg (by omega), if_neg (by omega)]; exact Ev.now _)
        simp only [environref02_compare.l0]; rw [if_pos (by omega), if_pos (by omega), if_pos (by omega), if_pos (by omega), ra, rb, if_neg (by omega), if_pos (by omega)]
      · refine Ev.step (f := fun k => environref02_compare.l0 k (dl a) (dl b) ((j : Int) - 1)) (fun k => ?_) (ih (by omega) (by omega))
        simp only [environref02_compare.l0]; rw [if_pos (by omega), if_pos (by omega), if_pos (by omega), if_pos (by omega), ra, rb, if_neg (by omega), if_neg (by omega), x64 (by omega) (by omega)]
theorem dl_lt_of_len {a b : Nat} (h : (dl a).length < (dl b).length) : a < b := by
  have h1 := dl_len_le (n := a) (Nat.le_refl _)
  have hb : b ≠ 0 := by rintro rfl; rw [dl_zero] at h; simp at h
  have h2 : b / 10 ^ (dl a).length ≠ 0 := by
    intro h0
    have := dl_drop (dl a).length b
    rw [h0, dl_zero] at this
    have := congrArg List.length this
    rw [List.length_drop, List.length_nil] at this; omega
  refine Nat.lt_of_not_le fun hle => ?_
  have := Nat.div_le_div_right (c := 10 ^ (dl a).length) hle
  rw [h1] at this; exact h2 (Nat.le_zero.1 this)
theorem cmp_is' {a b : Nat} (ha : (dl a).length ≤ 1000000) (hb : (dl b).length ≤ 1000000) : Ev (fun k => environref02_compare.f k (dl a) (dl b)) (cmp a b) := by
  by_cases hl : (dl a).length = (dl b).length
  · have h := cmp_l0 a b hl ha (dl a).length (Nat.le_refl _) (by rw [dl_len_le (Nat.le_refl _), dl_len_le (by omega)])
    refine Ev.congr (fun k => ?_) h
    unfold environref02_compare.f
    rw [if_pos (by omega), x64 (by omega) (by omega)]
  · by_cases h2 : (dl a).length < (dl b).length
    · have := dl_lt_of_len h2
      refine Ev.congr (f := fun _ => some (-1)) (fun k => ?_) (by unfold cmp; rw [if_neg (by omega), if_pos this]; exact Ev.now _)
      unfold environref02_compare.f; rw [if_neg (by omega), if_pos (by omega)]
    · have := dl_lt_of_len (a := b) (b := a) (by omega)
      refine Ev.congr (f := fun _ => some 1) (fun k => ?_) (by unfold cmp; rw [if_neg (by omega), if_neg (by omega)]; exact Ev.now _)
      unfold environref02_compare.f; rw [if_neg (by omega), if_neg (by omega)]
theorem dl_lt_iff {a i : Nat} : i < (dl a).length ↔ a / 10 ^ i ≠ 0 := by
  constructor
  · intro h h0
    have := dl_drop i a
    rw [h0, dl_zero] at this
    have := congrArg List.length this
    rw [List.length_drop, List.length_nil] at this; omega
  · intro h
    exact Nat.lt_of_not_le fun hle => h (dl_len_le hle)
theorem div_succ (a i : Nat) : a / 10 ^ (i + 1) = a / 10 ^ i / 10 := by rw [Nat.pow_succ, Nat.div_div_eq_div_mul]
theorem plus_l0 (a b : Nat) (ha : (dl a).length ≤ 1000000) (hb : (dl b).length ≤ 1000000) : ∀ (A : Nat) (i c : Nat) (out : List Int), A = c + a / 10 ^ i + b / 10 ^ i → c ≤ 9 → Dg out → out.length = i → i + dg A ≤ 900000 →
    Ev (fun k => environref02_plus.l0 k (dl a) (dl b) out (c : Int) (i : Int)) (dl (vl out + 10 ^ i * A)) := by
  intro A
  induction A using Nat.strongRecOn with
  | ind A ih =>
    intro i c out hA hc hd hi hs
    have ia := Aside0.mk (dl_lt_iff (a := a) (i := i))
    have ib := Aside0.mk (dl_lt_iff (a := b) (i := i))
    have sa := Aside0.mk (div_succ a i)
    have sb := Aside0.mk (div_succ b i)
    have rda := Aside0.mk (rd_dl (n := a) (i := i))
    have rdb := Aside0.mk (rd_dl (n := b) (i := i))
    generalize a / 10 ^ i = qa at *
    generalize b / 10 ^ i = qb at *
    have esum : Aside0 (∀ v : Nat, v + 10 ^ i * (A % 10) + 10 ^ (i + 1) * (A / 10) = v + 10 ^ i * A) := ⟨by
      intro v
      rw [Nat.pow_succ, Nat.mul_assoc, Nat.add_assoc, ← Nat.mul_add]; congr 2; omega⟩
    by_cases hz : A = 0
    · have z1 : ¬ i < (dl a).length := by rw [ia.out]; omega
      have z2 : ¬ i < (dl b).length := by rw [ib.out]; omega
      obtain rfl : c = 0 := by omega
      refine Ev.step (f := fun k => environref02_plus.j1 k (dl a) (dl b) out 0 i false) (fun k => ?_) ?_
      · simp only [environref02_plus.l0]; rw [if_neg (by omega), if_neg (by omega)]; rfl
      refine Ev.step (f := fun k => (environref02_trim.f k out).bind fun t => some t) (fun k => ?_) ?_
      · simp only [environref02_plus.j1]; rw [if_neg (by simp)]
      rw [hz, Nat.mul_zero, Nat.add_zero]
      exact Ev.bind (trim_is (by omega) hd) (Ev.now _)
    · have hp := dg_pos hz
      have go : Ev (fun k => environref02_plus.l0 k (dl a) (dl b) (out ++ [((A % 10 : Nat) : Int)]) (((c + qa % 10 + qb % 10) / 10 : Nat) : Int) ((i + 1 : Nat) : Int)) (dl (vl out + 10 ^ i * A)) := by
        have h := ih (A / 10) (by omega) (i + 1) ((c + qa % 10 + qb % 10) / 10) (out ++ [((A % 10 : Nat) : Int)]) (by rw [sa.out, sb.out]; omega) (by omega) (hd.append (Dg.cons (by omega) (by omega) Dg.nil)) (by rw [List.length_append, List.length_singleton]; omega) (by omega)
        rw [vl_snoc, hi, Int.toNat_natCast, esum.out] at h
        exact h
      have e1 : Aside0 (((i + 1 : Nat) : Int) = wrap64 ((i : Int) + 1)) := ⟨by rw [x64 (by omega) (by omega)]; omega⟩
      refine Ev.step (f := fun k => environref02_plus.j1 k (dl a) (dl b) out c i true) (fun k => ?_) ?_
      · simp only [environref02_plus.l0]
        by_cases z1 : i < (dl a).length
        · rw [if_pos (by omega)]
        · rw [if_neg (by omega)]
          by_cases z2 : i < (dl b).length
          · rw [if_pos (by omega)]
          · rw [if_neg (by omega)]
            have h1 : qa = 0 := Decidable.byContradiction fun h => z1 (ia.out.2 h)
            have h2 : qb = 0 := Decidable.byContradiction fun h => z2 (ib.out.2 h)
            have : 0 < c := by omega
            rw [decide_eq_true (by omega)]
      refine Ev.step (fun k => ?_) go
      simp only [environref02_plus.j1]
      rw [if_pos trivial, e1.out]
      have em : ∀ d : Nat, d ≤ 27 → (wrap64 (Int.tdiv (d : Int) 10) = ((d / 10 : Nat) : Int) ∧ Int.tmod (d : Int) 10 = ((d % 10 : Nat) : Int)) := by
        intro d hd
        rw [Int.tdiv_eq_ediv_of_nonneg (by omega), Int.tmod_eq_emod_of_nonneg (by omega), x64 (by omega) (by omega)]
        exact ⟨rfl, rfl⟩
      have fin : ∀ d : Nat, d = c + qa % 10 + qb % 10 → environref02_plus.l0 k (dl a) (dl b) (out ++ [Int.tmod (d : Int) 10]) (wrap64 (Int.tdiv (d : Int) 10)) (wrap64 ((i : Int) + 1)) = environref02_plus.l0 k (dl a) (dl b) (out ++ [((A % 10 : Nat) : Int)]) (((c + qa % 10 + qb % 10) / 10 : Nat) : Int) (wrap64 ((i : Int) + 1)) := by
        intro d hd
        have := em d (by omega)
        rw [this.1, this.2, hd]
        congr 4
        omega
      by_cases z1 : i < (dl a).length
      · have ra := rda.out z1
        rw [if_pos (by omega), if_pos (by omega), ra]
        by_cases z2 : i < (dl b).length
        · rw [if_pos (by omega), if_pos (by omega), rdb.out z2]
          rw [x64 (n := (c : Int) + ((qa % 10 : Nat) : Int)) (by omega) (by omega), x64 (n := (c : Int) + ((qa % 10 : Nat) : Int) + ((qb % 10 : Nat) : Int)) (by omega) (by omega)]
          exact fin (c + qa % 10 + qb % 10) rfl
        · rw [if_neg (by omega), if_pos (by omega)]
          rw [x64 (n := (c : Int) + ((qa % 10 : Nat) : Int)) (by omega) (by omega)]
          have hb0 : qb = 0 := Decidable.byContradiction fun h => z2 (ib.out.2 h)
          exact fin (c + qa % 10) (by omega)
      · have ha0 : qa = 0 := Decidable.byContradiction fun h => z1 (ia.out.2 h)
        rw [if_neg (by omega)]
        by_cases z2 : i < (dl b).length
        · rw [if_pos (by omega), if_pos (by omega), if_pos (by omega), rdb.out z2]
          rw [x64 (n := (c : Int) + ((qb % 10 : Nat) : Int)) (by omega) (by omega)]
          exact fin (c + qb % 10) (by omega)
        · have hb0 : qb = 0 := Decidable.byContradiction fun h => z2 (ib.out.2 h)
          rw [if_neg (by omega), if_pos (by omega)]
          exact fin c (by omega)
theorem dl_len_add (a b : Nat) : dg (a + b) ≤ max (dg a) (dg b) + 1 := by
  by_cases hz : a + b = 0
  · rw [hz, dg_zero]; omega
  · have h1 := dg_lt a; have h2 := dg_lt b
    have h3 : 10 ^ dg a ≤ 10 ^ max (dg a) (dg b) := Nat.pow_le_pow_right (by decide) (Nat.le_max_left _ _)
    have h4 : 10 ^ dg b ≤ 10 ^ max (dg a) (dg b) := Nat.pow_le_pow_right (by decide) (Nat.le_max_right _ _)
    have h5 := dg_le hz
    have h6 : 10 ^ (dg (a + b) - 1) < 10 ^ (max (dg a) (dg b) + 1) := by rw [Nat.pow_succ]; omega
    have := (Nat.pow_lt_pow_iff_right (show 1 < 10 by decide)).1 h6
    omega
theorem plus_is' {a b : Nat} (ha : dg a ≤ 100000) (hb : dg b ≤ 100000) : Ev (fun k => environref02_plus.f k (dl a) (dl b)) (dl (a + b)) := by
  have h := plus_l0 a b (by rw [len_dl]; omega) (by rw [len_dl]; omega) (a + b) 0 0 [] (by simp) (by omega) Dg.nil rfl (by have := dl_len_add a b; omega)
  simp only [vl, Nat.pow_zero, Nat.one_mul, Nat.zero_add] at h
  exact h
theorem dl_shift {a : Nat} (h : a ≠ 0) (k : Nat) : List.replicate k 0 ++ dl a = dl (a * 10 ^ k) := by
  induction k with
  | zero => simp
  | succ k ih =>
    have h0 : a * 10 ^ (k + 1) ≠ 0 := Nat.mul_ne_zero h (Nat.ne_of_gt (Nat.pow_pos (by decide)))
    rw [List.replicate_succ, List.cons_append, ih, dl_pos h0, Nat.pow_succ, ← Nat.mul_assoc, Nat.mul_mod_left, Nat.mul_div_cancel _ (by decide)]
    rfl
theorem shift_is {a k : Nat} (ha : dg a ≤ 100000) (hk : k ≤ 100000) : environref02_shift.f (dl a) (k : Int) = some (dl (a * 10 ^ k)) := by
  unfold environref02_shift.f
  by_cases h : a = 0
  · subst h; rw [dl_zero, if_pos (by simp), Nat.zero_mul, dl_zero]
  · have hp := dg_pos h
    rw [if_neg (by rw [len_dl]; omega), if_pos (by omega), Int.toNat_natCast, if_pos (by omega)]
    simp only [Option.bind_some]
    rw [if_pos (by rw [List.length_replicate, len_dl]; omega), dl_shift h]
theorem small_l0 (n : Nat) (hn : n < 1000000000000000000) : ∀ j : Nat, j ≤ (dl n).length → Ev (fun k => environref02_small.l0 k (dl n) ((n / 10 ^ j : Nat) : Int) ((j : Int) - 1)) (n : Int) := by
  intro j
  have hl : (dl n).length ≤ 39 := by rw [len_dl]; exact dg_small (by omega)
  induction j with
  | zero =>
    intro _
    refine Ev.step (f := fun _ => some (n : Int)) (fun k => ?_) (Ev.now _)
    simp only [environref02_small.l0]; rw [if_neg (by omega), Nat.pow_zero, Nat.div_one]
  | succ j ih =>
    intro hj
    have e : ((j + 1 : Nat) : Int) - 1 = (j : Int) := by omega
    have rb := rd_dl (n := n) (i := j) (by omega)
    have hq : n / 10 ^ j ≤ n := Nat.div_le_self _ _
    have sd := div_succ n j
    have ih := ih (by omega)
    rw [e, sd]
    clear sd e
    generalize n / 10 ^ j = q at *
    refine Ev.step (fun k => ?_) ih
    simp only [environref02_small.l0]; rw [if_pos (by omega), if_pos (by omega), if_pos (by omega), rb, x64 (n := 10 * ((q / 10 : Nat) : Int)) (by omega) (by omega), x64 (n := 10 * ((q / 10 : Nat) : Int) + ((q % 10 : Nat) : Int)) (by omega) (by omega), x64 (n := (j : Int) - 1) (by omega) (by omega)]
    congr 1; omega
theorem small_is {n : Nat} (hn : n < 1000000000000000000) : Ev (fun k => environref02_small.f k (dl n)) (n : Int) := by
  have hl : (dl n).length ≤ 39 := by rw [len_dl]; exact dg_small (by omega)
  have h := small_l0 n hn (dl n).length (Nat.le_refl _)
  rw [dl_len_le (Nat.le_refl _)] at h
  refine Ev.congr (fun k => ?_) h
  unfold environref02_small.f; rw [x64 (by omega) (by omega)]; rfl
theorem minus_l0 (a b : Nat) (ha : (dl a).length ≤ 900000) : ∀ (n i c : Nat) (out : List Int), i + n = (dl a).length → c ≤ 1 → c + b / 10 ^ i ≤ a / 10 ^ i → Dg out → out.length = i →
    Ev (fun k => environref02_minus.l0 k (dl a) (dl b) out (c : Int) (i : Int)) (dl (vl out + 10 ^ i * (a / 10 ^ i - (c + b / 10 ^ i)))) := by
  intro n
  induction n with
  | zero =>
    intro i c out hi hc hle hd ho
    have h0 : a / 10 ^ i = 0 := dl_len_le (by omega)
    refine Ev.step (f := fun k => (environref02_trim.f k out).bind fun t => some t) (fun k => ?_) ?_
    · simp only [environref02_minus.l0]; rw [if_neg (by omega)]
    rw [h0, Nat.zero_sub, Nat.mul_zero, Nat.add_zero]
    exact Ev.bind (trim_is (by omega) hd) (Ev.now _)
  | succ n ih =>
    intro i c out hi hc hle hd ho
    have hlt : i < (dl a).length := by omega
    have ra := rd_dl hlt
    have rdb := Aside0.mk (rd_dl (n := b) (i := i))
    have lb := Aside0.mk (dl_len_le (n := b) (i := i))
    have sa := Aside0.mk (div_succ a i)
    have sb := Aside0.mk (div_succ b i)
    generalize a / 10 ^ i = qa at *
    generalize b / 10 ^ i = qb at *
    have e1 : Aside0 (wrap64 ((i : Int) + 1) = ((i + 1 : Nat) : Int)) := ⟨by rw [x64 (by omega) (by omega)]; omega⟩
    -- one digit
    have go : ∀ (d c' : Nat), d < 10 → c' ≤ 1 → qa % 10 + 10 * c' = d + c + qb % 10 → Ev (fun k => environref02_minus.l0 k (dl a) (dl b) (out ++ [(d : Int)]) (c' : Int) ((i + 1 : Nat) : Int)) (dl (vl out + 10 ^ i * (qa - (c + qb)))) := by
      intro d c' h1 h2 h3
      have h := ih (i + 1) c' (out ++ [(d : Int)]) (by omega) h2 (by rw [sa.out, sb.out]; omega) (hd.append (Dg.cons (by omega) (by omega) Dg.nil)) (by rw [List.length_append, List.length_singleton]; omega)
      rw [vl_snoc, ho, Int.toNat_natCast, sa.out, sb.out, Nat.pow_succ, Nat.mul_assoc, Nat.add_assoc, ← Nat.mul_add, show d + 10 * (qa / 10 - (c' + qb / 10)) = qa - (c + qb) by omega] at h
      exact h
    by_cases z2 : i < (dl b).length
    · have rb := rdb.out z2
      by_cases hneg : qa % 10 < c + qb % 10
      · refine Ev.step (fun k => ?_) (go (qa % 10 + 10 - c - qb % 10) 1 (by omega) (by omega) (by omega))
        simp only [environref02_minus.l0]
        rw [if_pos (by omega), if_pos (by omega), if_pos (by omega), ra, rb, x64 (n := ((qa % 10 : Nat) : Int) - c) (by omega) (by omega), x64 (n := ((qa % 10 : Nat) : Int) - c - ((qb % 10 : Nat) : Int)) (by omega) (by omega), if_pos (by omega), if_pos (by omega), e1.out, x64 (by omega) (by omega)]
        congr 4; omega
      · refine Ev.step (fun k => ?_) (go (qa % 10 - c - qb % 10) 0 (by omega) (by omega) (by omega))
        simp only [environref02_minus.l0]
        rw [if_pos (by omega), if_pos (by omega), if_pos (by omega), ra, rb, x64 (n := ((qa % 10 : Nat) : Int) - c) (by omega) (by omega), x64 (n := ((qa % 10 : Nat) : Int) - c - ((qb % 10 : Nat) : Int)) (by omega) (by omega), if_neg (by omega), if_pos (by omega), e1.out]
        congr 4; omega
    · have hb0 : qb = 0 := lb.out (by omega)
      by_cases hneg : qa % 10 < c
      · refine Ev.step (fun k => ?_) (go (qa % 10 + 10 - c) 1 (by omega) (by omega) (by rw [hb0]; omega))
        simp only [environref02_minus.l0]
        rw [if_pos (by omega), if_pos (by omega), if_neg (by omega), ra, x64 (n := ((qa % 10 : Nat) : Int) - c) (by omega) (by omega), if_pos (by omega), if_pos (by omega), e1.out, x64 (by omega) (by omega)]
        congr 4; omega
      · refine Ev.step (fun k => ?_) (go (qa % 10 - c) 0 (by omega) (by omega) (by rw [hb0]; omega))
        simp only [environref02_minus.l0]
        rw [if_pos (by omega), if_pos (by omega), if_neg (by omega), ra, x64 (n := ((qa % 10 : Nat) : Int) - c) (by omega) (by omega), if_neg (by omega), if_pos (by omega), e1.out]
        congr 4; omega
theorem minus_is' {a b : Nat} (ha : dg a ≤ 100000) (h : b ≤ a) : Ev (fun k => environref02_minus.f k (dl a) (dl b)) (dl (a - b)) := by
  have h := minus_l0 a b (by rw [len_dl]; omega) (dl a).length 0 0 [] (by omega) (by omega) (by simpa using h) Dg.nil rfl
  simp only [vl, Nat.pow_zero, Nat.one_mul, Nat.zero_add, Nat.div_one] at h
  exact h
theorem form_l0 (neg : Bool) : ∀ (n : Nat) (e : Int), n ≤ 1000000000000000000 → -100000 ≤ e → e + dg n ≤ 100000 → Ev (fun k => environref02_form.l0 k neg (dl n) e) (sgn neg (strip n e).1, (strip n e).2) := by
  intro n
  induction n using Nat.strongRecOn with
  | ind n ih =>
    intro e hn he he2
    by_cases hz : n = 0
    · subst hz
      rw [dl_zero]
      refine Ev.step (f := fun k => environref02_form.j1 k neg [] e) (fun k => ?_) ?_
      · simp only [environref02_form.l0]; rw [if_neg (by simp)]
      refine Ev.step (f := fun k => some (0, 0)) (fun k => ?_) ?_
      · simp only [environref02_form.j1]; rw [if_pos (by simp)]
      have h : strip 0 e = (0, 0) := by unfold strip; simp
      rw [h]
      have : sgn neg 0 = 0 := by unfold sgn; cases neg <;> rfl
      rw [this]; exact Ev.now _
    · have hp := dg_pos hz
      have hlen : 0 < (dl n).length := by rw [len_dl]; omega
      have hr := rd_dl hlen
      rw [Nat.pow_zero, Nat.div_one] at hr
      by_cases h0 : n % 10 = 0
      · have hs : strip n e = strip (n / 10) (e + 1) := by rw [strip, dif_neg hz, if_pos h0]
        rw [hs]
        refine Ev.step (fun k => ?_) (ih (n / 10) (by omega) (e + 1) (by omega) (by omega) (by omega))
        simp only [environref02_form.l0]
        rw [if_pos (by omega), if_pos (by omega), show (0 : Int) = ((0 : Nat) : Int) from rfl, hr, if_pos (by omega), if_pos (by omega), x64 (by omega) (by omega)]
        rw [dl_drop, Nat.pow_one]
      · have hs : strip n e = (n, e) := by rw [strip, dif_neg hz, if_neg h0]
        rw [hs]
        refine Ev.step (f := fun k => environref02_form.j1 k neg (dl n) e) (fun k => ?_) ?_
        · simp only [environref02_form.l0]
          rw [if_pos (by omega), if_pos (by omega), show (0 : Int) = ((0 : Nat) : Int) from rfl, hr, if_neg (by omega)]
        refine Ev.step (f := fun k => (environref02_small.f k (dl n)).bind fun t => if neg = true then some (wrap64 (-t), e) else some (t, e)) (fun k => ?_) ?_
        · simp only [environref02_form.j1]; rw [if_neg (by omega)]
        refine Ev.bind (small_is (by omega)) ?_
        unfold sgn
        cases neg
        · simp only [Bool.false_eq_true, if_false]; exact Ev.now _
        · simp only [if_true]; rw [x64 (by omega) (by omega)]; exact Ev.now _
theorem form_is (neg : Bool) {n : Nat} {e : Int} (hn : n ≤ 1000000000000000000) (he : -100000 ≤ e) (he2 : e ≤ 90000) : Ev (fun k => environref02_form.f k neg (dl n) e) (sgn neg (strip n e).1, (strip n e).2) := by
  have := dg_small (n := n) (by omega)
  exact form_l0 neg n e hn he (by omega)
theorem five_dl : ([5] : List Int) = dl 5 := by rw [dl_pos (by decide)]; rw [dl_zero]; rfl
theorem cmp_half (r d : Nat) (hd : d ≠ 0) (more : Bool) (hr : r < 10 ^ d) : (if wrap64 (cmp r (5 * 10 ^ (d - 1)) + 1) = 1 then (if more = true then (2 : Int) else wrap64 (cmp r (5 * 10 ^ (d - 1)) + 1)) else wrap64 (cmp r (5 * 10 ^ (d - 1)) + 1)) = sdS r (10 ^ d) more + 1 := by
  have e : 10 ^ d = 10 * 10 ^ (d - 1) := by rw [Nat.mul_comm, ← Nat.pow_succ]; congr 1; omega
  rw [e] at hr ⊢
  generalize 10 ^ (d - 1) = K at *
  have w0 : wrap64 (-1 + 1) = 0 := by unfold wrap64; omega
  have w1 : wrap64 (0 + 1) = 1 := by unfold wrap64; omega
  have w2 : wrap64 (1 + 1) = 2 := by unfold wrap64; omega
  rcases Nat.lt_trichotomy r (5 * K) with h | h | h
  · have hc : cmp r (5 * K) = -1 := by unfold cmp; rw [if_neg (by omega), if_pos h]
    have hs : sdS r (10 * K) more = -1 := by unfold sdS; rw [if_neg (by omega), if_pos (by omega)]
    rw [hc, hs, w0, if_neg (by decide)]; rfl
  · have hc : cmp r (5 * K) = 0 := by unfold cmp; rw [if_pos h]
    have hs : sdS r (10 * K) more = if more = true then 1 else 0 := by unfold sdS; rw [if_pos (by omega)]
    rw [hc, hs, w1, if_pos rfl]; cases more <;> rfl
  · have hc : cmp r (5 * K) = 1 := by unfold cmp; rw [if_neg (by omega), if_neg (by omega)]
    have hs : sdS r (10 * K) more = 1 := by unfold sdS; rw [if_neg (by omega), if_neg (by omega)]
    rw [hc, hs, w2, if_neg (by decide)]; rfl
theorem cut_is (neg : Bool) (n : Nat) (e : Int) (more : Bool) (d : Nat) (hd : d ≠ 0) (hnz : n ≠ 0 ∨ more = true) (hn : dg n ≤ 10000) (hd2 : d ≤ 20000) :
    Ev (fun k => environref02_cut.f k neg (dl n) e more (d : Int)) (dl (cutG n d more).1, (cutG n d more).2.1 + 1, (cutG n d more).2.2) := by
  have hlen := len_dl n
  unfold cutG
  rw [if_neg hd]
  by_cases hl : dg n < d
  · have hlt : n < 10 ^ (d - 1) := dg_le_iff.1 (by omega)
    have e10 : 10 ^ d = 10 * 10 ^ (d - 1) := by rw [Nat.mul_comm, ← Nat.pow_succ]; congr 1; omega
    refine Ev.congr (f := fun _ => some ([], 0, true)) (fun k => ?_) ?_
    · unfold environref02_cut.f; rw [if_pos (by omega)]
    have h1 : n % 10 ^ d = n := Nat.mod_eq_of_lt (by omega)
    have h2 : n / 10 ^ d = 0 := Nat.div_eq_of_lt (by omega)
    have h3 : sdS n (10 ^ d) more = -1 := by
      unfold sdS; rw [e10] at *; rw [if_neg (by omega), if_pos (by omega)]
    have h4 : (more || decide (n ≠ 0)) = true := by rcases hnz with h | h <;> simp [h]
    rw [h1, h2, h3, h4, dl_zero]; exact Ev.now _
  · have hlen5 : dg 5 ≤ 100000 := by rw [dg_pos (by decide), dg_zero]; decide
    refine Ev.congr (f := fun k => (environref02_trim.f k ([] ++ (dl n).drop d)).bind fun t311 => (environref02_trim.f k ([] ++ (dl n).take d)).bind fun t321 => (environref02_compare.f k t321 (dl (5 * 10 ^ (d - 1)))).bind fun t330 => some (t311, (if wrap64 (t330 + 1) = 1 then (if more = true then 2 else wrap64 (t330 + 1)) else wrap64 (t330 + 1)), if (t321.length : Int) > 0 then true else more)) (fun k => ?_) ?_
    · have hsh : environref02_shift.f [5] (wrap64 ((d : Int) - 1)) = some (dl (5 * 10 ^ (d - 1))) := by
        rw [x64 (by omega) (by omega), show (d : Int) - 1 = ((d - 1 : Nat) : Int) by omega, five_dl]; exact shift_is hlen5 (by omega)
      unfold environref02_cut.f
      rw [if_neg (by omega)]
      simp only [Option.bind_some]
      rw [if_pos (by omega), if_pos (by omega), Int.toNat_natCast, if_pos (by rw [List.length_nil, List.length_drop]; omega)]
      have hT : ([] : List Int).length + ((dl n).take d).length < 17592186044416 := by rw [List.length_nil, List.length_take]; omega
      simp only [hT, if_true, hsh, Option.bind_some]
      congr 1; funext t311; congr 1; funext t321; congr 1; funext t330
      by_cases c1 : wrap64 (t330 + 1) = 1
      · rw [if_pos c1, if_pos c1]
        cases more
        · simp only [Bool.false_eq_true, if_false]; split <;> rfl
        · simp only [if_true]; split <;> rfl
      · rw [if_neg c1, if_neg c1]; split <;> rfl
    rw [List.nil_append, List.nil_append]
    have t1 := trim_is (l := (dl n).drop d) (by rw [List.length_drop]; omega) ((dg_dl n).drop d)
    have t2 := trim_is (l := (dl n).take d) (by rw [List.length_take]; omega) ((dg_dl n).take d)
    rw [dl_drop, vl_dl] at t1
    rw [vl_take] at t2
    rw [dl_drop]
    refine Ev.bind t1 (Ev.bind t2 ?_)
    have hr := Nat.mod_lt n (p10 d)
    have hdr : dg (n % 10 ^ d) ≤ 20000 := Nat.le_trans (dg_le_iff.2 hr) hd2
    have hd5 : dg (5 * 10 ^ (d - 1)) ≤ 20000 := by rw [dg_mul (by decide), dg_pos (n := 5) (by decide), dg_zero]; omega
    refine Ev.bind (cmp_is' (by rw [len_dl]; omega) (by rw [len_dl]; omega)) ?_
    rw [cmp_half _ _ hd _ hr]
    have : (if ((dl (n % 10 ^ d)).length : Int) > 0 then true else more) = (more || decide (n % 10 ^ d ≠ 0)) := by
      by_cases h0 : n % 10 ^ d = 0
      · rw [h0, dl_zero]; simp
      · have hp := dg_pos h0
        rw [if_pos (by rw [len_dl]; omega)]; simp [h0]
    rw [this]; exact Ev.now _
theorem away_is (how : Int) (neg : Bool) (q : Nat) (half : Int) (left : Bool) (hh : half = -1 ∨ half = 0 ∨ half = 1) : environref02_away.f how neg (dl q) (half + 1) left = some (awayS how neg (decide (q % 2 = 1)) half left) := by
  unfold environref02_away.f awayS
  by_cases h0 : how = 0
  · rw [if_pos h0, if_pos h0]
    by_cases hz : q = 0
    · subst hz; rw [dl_zero, if_neg (by simp)]
      rcases hh with rfl | rfl | rfl <;> simp
    · have hp := dg_pos hz
      have hlen : 0 < (dl q).length := by rw [len_dl]; omega
      have hr := rd_dl hlen
      rw [Nat.pow_zero, Nat.div_one] at hr
      rw [if_pos (by omega), if_pos (by omega), show (0 : Int) = ((0 : Nat) : Int) from rfl, hr]
      have hm : (Int.tmod ((q % 10 : Nat) : Int) 2 == 1) = decide (q % 2 = 1) := by
        rw [Int.tmod_eq_emod_of_nonneg (by omega), Bool.eq_iff_iff, beq_iff_eq, decide_eq_true_eq]; omega
      rw [hm]
      rcases hh with rfl | rfl | rfl <;> simp
  · rw [if_neg h0, if_neg h0]
    by_cases h1 : how = 1
    · rw [if_pos h1, if_pos h1]; cases left <;> simp
    · rw [if_neg h1, if_neg h1]
      by_cases h2 : how = 2
      · rw [if_pos h2, if_pos h2]; cases left <;> simp
      · rw [if_neg h2, if_neg h2]
def pd (s : Int) : Nat := if s = -1 then 7 else if s = 0 then 15 else if s = 1 then 18 else 0
def er (s : Int) : Int := if s = -1 then 0 else if s = 0 then 0 else if s = 1 then 0 else 1
theorem rdigits_is (s : Int) : environref02_Digits.f s = some ((pd s : Int), er s) := by
  unfold environref02_Digits.f pd er
  split
  · rfl
  · split
    · rfl
    · split <;> rfl
theorem pd_of {s : Int} (h : er s = 0) : pd s = 7 ∨ pd s = 15 ∨ pd s = 18 := by
  unfold er at h; unfold pd
  split
  · omega
  · split
    · omega
    · split
      · omega
      · rename_i h1 h2 h3; rw [if_neg h1, if_neg h2, if_neg h3] at h; omega
theorem er_or (s : Int) : er s = 0 ∨ er s = 1 := by
  unfold er; split
  · omega
  · split
    · omega
    · split <;> omega
theorem nines (p : Nat) : dl (10 ^ p - 1) = List.replicate p 9 := by
  induction p with
  | zero => rw [Nat.pow_zero, Nat.sub_self, dl_zero]; rfl
  | succ p ih =>
    have z := p10 p
    have e : 10 ^ (p + 1) = 10 * 10 ^ p := by rw [Nat.pow_succ, Nat.mul_comm]
    rw [dl_pos (by omega), List.replicate_succ, ← ih]
    congr 1
    · omega
    · congr 1; omega
theorem most_l0 (p : Nat) (hp : p ≤ 18) (neg : Bool) (l : List Int) (e : Int) (more : Bool) (hp0 : p ≠ 0) : ∀ (n i : Nat), i + n = p → Ev (fun k => environref02_Rounded.l0 k (p : Int) (List.replicate i 9) (i : Int) neg l e more) (sgn neg (10 ^ p - 1), 400, 0) := by
  intro n
  induction n with
  | zero =>
    intro i hi
    obtain rfl : i = p := by omega
    refine Ev.step (f := fun k => (environref02_form.f k neg (List.replicate i 9) 400).bind fun t => some (t.1, t.2, 0)) (fun k => ?_) ?_
    · simp only [environref02_Rounded.l0]; rw [if_neg (by omega)]
    rw [← nines]
    have h18 : 10 ^ i ≤ 10 ^ 18 := Nat.pow_le_pow_right (by decide) hp
    have h := form_is neg (n := 10 ^ i - 1) (e := 400) (by omega) (by omega) (by omega)
    have hm : (10 ^ i - 1) % 10 ≠ 0 := by
      have e : 10 ^ i = 10 * 10 ^ (i - 1) := by rw [Nat.mul_comm, ← Nat.pow_succ]; congr 1; omega
      have := p10 (i - 1); omega
    rw [strip_ok (fun h => by rw [h] at hm; exact absurd rfl hm) (fun _ => hm)] at h
    exact Ev.bind h (Ev.now _)
  | succ n ih =>
    intro i hi
    refine Ev.step (fun k => ?_) (ih (i + 1) (by omega))
    simp only [environref02_Rounded.l0]; rw [if_pos (by omega), if_pos (by rw [List.length_replicate]; omega), x64 (by omega) (by omega), List.replicate_succ']
    rfl
def flat (r : (Int × Int) × Int) : Int × Int × Int := (r.1.1, r.1.2, r.2)
theorem j4_is (p : Nat) (hp : p ≤ 18) (hp0 : p ≠ 0) (b neg : Bool) (l : List Int) (e : Int) (more : Bool) :
    Ev (fun k => environref02_Rounded.j4 k (p : Int) b neg l e more) (if b = true then (sgn neg (10 ^ p - 1), 400, 0) else (0, 0, 11)) := by
  cases b
  · refine Ev.step (f := fun _ => some (0, 0, 11)) (fun k => ?_) (Ev.now _)
    simp only [environref02_Rounded.j4]; rw [if_neg (by simp)]
  · refine Ev.step (fun k => ?_) (most_l0 p hp neg l e more hp0 p 0 (by omega))
    simp only [environref02_Rounded.j4]; rw [if_pos trivial]; rfl
theorem j3_is (p : Nat) (hp : p ≤ 18) (hp0 : p ≠ 0) (how : Int) (h0 : 0 ≤ how) (h3 : how ≤ 3) (neg : Bool) (q : Nat) (hq : q ≤ 10 ^ p) (t : Int) (ht : -50000 ≤ t) (ht2 : t ≤ 50000) (hz : q = 0 → t ≤ p + 400) (l : List Int) (e : Int) (more : Bool) :
    Ev (fun k => environref02_Rounded.j3 k how (p : Int) t (dl q) neg l e more) (flat (fin p how neg q t)) := by
  have h18 : 10 ^ p ≤ 10 ^ 18 := Nat.pow_le_pow_right (by decide) hp
  have hdq := dg_small (n := q) (by omega)
  have hw1 : Aside0 (wrap64 (((dl q).length : Int) + t) = (dg q : Int) + t) := ⟨by rw [len_dl]; exact x64 (by omega) (by omega)⟩
  have hw2 : Aside0 (wrap64 ((p : Int) + 400) = (p : Int) + 400) := ⟨x64 (by omega) (by omega)⟩
  by_cases hle : (dg q : Int) + t ≤ p + 400
  · refine Ev.step (f := fun k => (environref02_form.f k neg (dl q) t).bind fun r => some (r.1, r.2, 0)) (fun k => ?_) ?_
    · simp only [environref02_Rounded.j3]; rw [hw1.out, hw2.out, if_pos hle]
    have hfin : flat (fin p how neg q t) = (sgn neg (strip q t).1, (strip q t).2, 0) := by
      unfold fin
      by_cases h : q = 0
      · subst h
        rw [if_pos rfl]
        have h : strip 0 t = (0, 0) := by unfold strip; simp
        rw [h]
        have : sgn neg 0 = 0 := by unfold sgn; cases neg <;> rfl
        rw [this]; rfl
      · rw [if_neg h, if_neg (by omega)]; rfl
    rw [hfin]
    exact Ev.bind (form_is neg (by omega) (by omega) (by omega)) (Ev.now _)
  · have hq0 : q ≠ 0 := by rintro rfl; rw [dg_zero] at hle; have := hz rfl; omega
    have key : ∀ b : Bool, (∀ k, environref02_Rounded.j3 (k + 1) how (p : Int) t (dl q) neg l e more = environref02_Rounded.j4 k (p : Int) b neg l e more) → (b = true ↔ ¬ (how = 0 ∨ how = 1 ∧ neg = false ∨ how = 2 ∧ neg = true)) → Ev (fun k => environref02_Rounded.j3 k how (p : Int) t (dl q) neg l e more) (flat (fin p how neg q t)) := by
      intro b hb hiff
      have hfin : flat (fin p how neg q t) = if b = true then (sgn neg (10 ^ p - 1), 400, 0) else (0, 0, 11) := by
        unfold fin
        rw [if_neg hq0, if_pos (by omega)]
        by_cases hc : how = 0 ∨ how = 1 ∧ neg = false ∨ how = 2 ∧ neg = true
        · rw [if_pos hc, if_neg (fun h => hiff.1 h hc)]; rfl
        · rw [if_neg hc, if_pos (hiff.2 hc)]; rfl
      rw [hfin]
      exact Ev.step hb (j4_is p hp hp0 b neg l e more)
    have hh : how = 0 ∨ how = 1 ∨ how = 2 ∨ how = 3 := by omega
    rcases hh with rfl | rfl | rfl | rfl
    · refine key false (fun k => ?_) (by simp)
      simp only [environref02_Rounded.j3]; rw [hw1.out, hw2.out, if_neg hle, if_neg (by decide), if_neg (by decide), if_neg (by decide)]
    · refine key neg (fun k => ?_) (by cases neg <;> simp)
      simp only [environref02_Rounded.j3]; rw [hw1.out, hw2.out, if_neg hle, if_neg (by decide), if_neg (by decide), if_pos trivial]
    · refine key (!neg) (fun k => ?_) (by cases neg <;> simp)
      simp only [environref02_Rounded.j3]; rw [hw1.out, hw2.out, if_neg hle, if_neg (by decide), if_pos trivial]
      cases neg
      · rw [if_neg (by decide)]; rfl
      · rw [if_pos rfl, if_neg (by decide)]; rfl
    · refine key true (fun k => ?_) (by simp)
      simp only [environref02_Rounded.j3]; rw [hw1.out, hw2.out, if_neg hle, if_pos trivial]
theorem sd_or (r m : Nat) (more : Bool) : sdS r m more = -1 ∨ sdS r m more = 0 ∨ sdS r m more = 1 := by
  unfold sdS; split
  · split <;> simp
  · split <;> simp
theorem cut_or (n d : Nat) (more : Bool) : (cutG n d more).2.1 = -1 ∨ (cutG n d more).2.1 = 0 ∨ (cutG n d more).2.1 = 1 := by
  unfold cutG; split
  · simp
  · exact sd_or _ _ _
theorem j2_is (p : Nat) (hp : p ≤ 18) (hp0 : p ≠ 0) (how : Int) (h0 : 0 ≤ how) (h3 : how ≤ 3) (neg : Bool) (c : Nat × Int × Bool) (hc : c.2.1 = -1 ∨ c.2.1 = 0 ∨ c.2.1 = 1) (hq : up how neg c ≤ 10 ^ p) (t : Int) (ht : -50000 ≤ t) (ht2 : t ≤ 50000) (hz : up how neg c = 0 → t ≤ p + 400) (l : List Int) (e : Int) (more : Bool) :
    Ev (fun k => environref02_Rounded.j2 k how (p : Int) t (dl c.1) (c.2.1 + 1) c.2.2 neg l e more) (flat (fin p how neg (up how neg c) t)) := by
  have h18 : 10 ^ p ≤ 10 ^ 18 := Nat.pow_le_pow_right (by decide) hp
  have haw := away_is how neg c.1 c.2.1 c.2.2 hc
  have hj := j3_is p hp hp0 how h0 h3 neg (up how neg c) hq t ht ht2 hz l e more
  by_cases ha : awayS how neg (decide (c.1 % 2 = 1)) c.2.1 c.2.2 = true
  · have hu : up how neg c = c.1 + 1 := by unfold up; rw [if_pos ha]
    rw [ha] at haw
    refine Ev.step (f := fun k => (environref02_Of.f k 1).bind fun t372 => (environref02_plus.f k (dl c.1) t372).bind fun t375 => environref02_Rounded.j3 k how p t t375 neg l e more) (fun k => ?_) ?_
    · simp only [environref02_Rounded.j2]; rw [haw]; simp only [Option.bind_some, if_true]
    have hd1 := dg_small (n := c.1) (by omega)
    have hd2 : dg 1 ≤ 100000 := by rw [dg_pos (by decide), dg_zero]; decide
    have ho := of_is (m := 1) (by decide) (by decide)
    have hp1 := plus_is' (a := c.1) (b := 1) (by omega) hd2
    rw [hu] at hj ⊢
    exact Ev.bind ho (Ev.bind hp1 hj)
  · have hu : up how neg c = c.1 := by unfold up; rw [if_neg ha]; rfl
    have ha' : awayS how neg (decide (c.1 % 2 = 1)) c.2.1 c.2.2 = false := by simpa using ha
    rw [ha'] at haw
    rw [hu] at hj ⊢
    refine Ev.step (fun k => ?_) hj
    simp only [environref02_Rounded.j2]; rw [haw]; simp only [Option.bind_some, Bool.false_eq_true, if_false]
theorem rnd_zero (p : Nat) (how : Int) (neg : Bool) (e : Int) : rnd p how neg 0 e false = ((0, 0), 0) := by
  unfold rnd
  have h : ∀ d, cutG 0 d false = (0, -1, false) := by
    intro d; have := cut_exact 0 d d (Nat.le_refl _); simpa using this
  rw [h, up_exact]; unfold fin; simp
theorem rounded_is {s : Int} (hs : er s = 0) (how : Int) (h0 : 0 ≤ how) (h3 : how ≤ 3) (neg : Bool) (n : Nat) (e : Int) (more : Bool) (hnz : n ≠ 0 ∨ more = false) (hn : dg n ≤ 5000) (he : -15000 ≤ e) (he2 : e ≤ 15000) :
    Ev (fun k => environref02_Rounded.f k s how neg (dl n) e more) (flat (rnd (pd s) how neg n e more)) := by
  have hp := pd_of hs
  have hlen := len_dl n
  by_cases hz : n = 0
  · subst hz
    obtain rfl : more = false := by rcases hnz with h | h; exact absurd rfl h; exact h
    rw [rnd_zero, dl_zero]
    refine Ev.congr (f := fun k => environref02_Rounded.j0 k how (pd s) true neg [] e false) (fun k => ?_) ?_
    · unfold environref02_Rounded.f; rw [rdigits_is]; simp only [Option.bind_some]; rw [if_pos (by simp)]; rfl
    refine Ev.step (f := fun k => some (0, 0, 0)) (fun k => ?_) (Ev.now _)
    simp only [environref02_Rounded.j0]; rw [if_pos trivial]
  · have hdp := dg_pos hz
    have hup := up_lt (pd s) how neg n e more
    have hcq := cut_or n (dropS (pd s) n e) more
    have hg := (show -400 ≤ e + (dropS (pd s) n e : Int) by unfold dropS; omega)
    have hq0 : up how neg (cutG n (dropS (pd s) n e) more) = 0 → e + dropS (pd s) n e ≤ pd s + 400 := by
      intro hu
      have h1 := (up_le how neg n (dropS (pd s) n e) more).1
      rw [hu] at h1
      have h2 := dg_div n (dropS (pd s) n e)
      rw [Nat.le_zero.1 h1, dg_zero] at h2
      unfold dropS at *; omega
    have hj2 := j2_is (pd s) (by omega) (by omega) how h0 h3 neg (cutG n (dropS (pd s) n e) more) hcq hup (e + dropS (pd s) n e) (by omega) (by unfold dropS; omega) hq0 (dl n) e more
    have hD : dropS (pd s) n e = max (dg n - pd s) (-400 - e).toNat := rfl
    have j1 : Ev (fun k => environref02_Rounded.j1 k how (pd s) (max (e + dg n - pd s) (-400)) neg (dl n) e more) (flat (rnd (pd s) how neg n e more)) := by
      by_cases hd : dropS (pd s) n e = 0
      · unfold rnd
        rw [hd] at hj2 ⊢
        rw [Int.natCast_zero, Int.add_zero] at *
        refine Ev.step (fun k => ?_) hj2
        simp only [environref02_Rounded.j1]; rw [if_neg (by omega)]; rfl
      · refine Ev.step (f := fun k => (environref02_cut.f k neg (dl n) e more (dropS (pd s) n e : Nat)).bind fun b => environref02_Rounded.j2 k how (pd s) (e + dropS (pd s) n e) b.1 b.2.1 b.2.2 neg (dl n) e more) (fun k => ?_) ?_
        · simp only [environref02_Rounded.j1]; rw [if_pos (by omega), x64 (by omega) (by omega)]
          have e1 : max (e + (dg n : Int) - (pd s : Int)) (-400) = e + ((dropS (pd s) n e : Nat) : Int) := by omega
          rw [e1, show e + ((dropS (pd s) n e : Nat) : Int) - e = ((dropS (pd s) n e : Nat) : Int) by omega]
        exact Ev.bind (cut_is neg n e more (dropS (pd s) n e) hd (.inl hz) (by omega) (by omega)) hj2
    refine Ev.congr (f := fun k => environref02_Rounded.j0 k how (pd s) false neg (dl n) e more) (fun k => ?_) ?_
    · unfold environref02_Rounded.f; rw [rdigits_is]; simp only [Option.bind_some]; rw [if_neg (by omega)]
    refine Ev.step (fun k => ?_) j1
    simp only [environref02_Rounded.j0]; rw [if_neg (by simp), x64 (n := e + ((dl n).length : Int)) (by omega) (by omega), x64 (n := e + ((dl n).length : Int) - (pd s : Int)) (by omega) (by omega), hlen]
    by_cases h4 : e + (dg n : Int) - (pd s : Int) < -400
    · rw [if_pos h4, show max (e + (dg n : Int) - (pd s : Int)) (-400) = -400 by omega]
    · rw [if_neg h4, show max (e + (dg n : Int) - (pd s : Int)) (-400) = e + (dg n : Int) - (pd s : Int) by omega]
def okB (p n : Nat) (e : Int) : Bool := if n = 0 then decide (e = 0) else decide (n % 10 ≠ 0 ∧ dg n ≤ p ∧ -400 ≤ e ∧ e + dg n ≤ p + 400)
theorem rvalid_is (s m e : Int) (hm : -9223372036854775808 ≤ m) (hm2 : m ≤ 9223372036854775807) : Ev (fun k => environref02_Valid.f k s m e) (decide (er s = 0) && okB (pd s) m.natAbs e) := by
  by_cases hs : er s = 0
  · have hp := pd_of hs
    rw [hs, show decide ((0 : Int) = 0) = true from rfl, Bool.true_and]
    unfold okB
    by_cases h0 : m = 0
    · subst h0
      refine Ev.congr (f := fun _ => some (decide (e = 0))) (fun k => ?_) (Ev.now _)
      unfold environref02_Valid.f; rw [rdigits_is]; simp only [Option.bind_some]; rw [if_pos hs, if_pos trivial]; rfl
    · have hz : m.natAbs ≠ 0 := by omega
      have hdp := dg_pos hz
      have hds := dg_small (n := m.natAbs) (by omega)
      have hlen := len_dl m.natAbs
      have hr := rd_dl (n := m.natAbs) (i := 0) (by omega)
      rw [Nat.pow_zero, Nat.div_one] at hr
      rw [if_neg hz]
      refine Ev.congr (f := fun k => (environref02_Of.f k m).bind fun t269 => (if 0 < (t269.length : Int) then (if (rd t269 0) = 0 then (some false) else (if (t269.length : Int) ≤ pd s then (if e ≥ (-400) then (some (decide (e ≤ (wrap64 ((wrap64 ((pd s : Int) + 400)) - (t269.length : Int)))))) else (some false)) else (some false))) else (none))) (fun k => ?_) ?_
      · unfold environref02_Valid.f; rw [rdigits_is]; simp only [Option.bind_some]; rw [if_pos hs, if_neg h0]
      refine Ev.bind (of_is hm hm2) ?_
      have hw : wrap64 ((wrap64 ((pd s : Int) + 400)) - ((dl m.natAbs).length : Int)) = (pd s : Int) + 400 - dg m.natAbs := by
        rw [hlen, x64 (n := (pd s : Int) + 400) (by omega) (by omega), x64 (by omega) (by omega)]
      rw [if_pos (by omega), hw]
      clear hw
      rw [show rd (dl m.natAbs) 0 = ((m.natAbs % 10 : Nat) : Int) from hr]
      by_cases h1 : m.natAbs % 10 = 0
      · rw [if_pos (by omega), decide_eq_false (fun h => h.1 h1)]; exact Ev.now _
      · rw [if_neg (by omega)]
        by_cases h2 : dg m.natAbs ≤ pd s
        · rw [if_pos (by omega)]
          by_cases h3 : -400 ≤ e
          · rw [if_pos h3]
            have : decide (e ≤ (pd s : Int) + 400 - dg m.natAbs) = decide (m.natAbs % 10 ≠ 0 ∧ dg m.natAbs ≤ pd s ∧ -400 ≤ e ∧ e + dg m.natAbs ≤ pd s + 400) := by
              rw [decide_eq_decide]; constructor
              · intro h; exact ⟨h1, h2, h3, by omega⟩
              · intro h; omega
            rw [this]; exact Ev.now _
          · rw [if_neg h3, decide_eq_false (fun h => h3 h.2.2.1)]; exact Ev.now _
        · rw [if_neg (by omega), decide_eq_false (fun h => h2 h.2.1)]; exact Ev.now _
  · refine Ev.congr (f := fun _ => some false) (fun k => ?_) ?_
    · unfold environref02_Valid.f; rw [rdigits_is]; simp only [Option.bind_some]; rw [if_neg hs]
    rw [decide_eq_false hs, Bool.false_and]; exact Ev.now _
/-- what is wrong with a size, a direction and two numbers -/
def rightS (s how : Int) (a b : Bool) : Int := if er s = 0 ∧ 0 ≤ how ∧ how ≤ 3 then (if a && b then 0 else 11) else 1
theorem right_is (s how m e n f : Int) (hm : -9223372036854775808 ≤ m) (hm2 : m ≤ 9223372036854775807) (hn : -9223372036854775808 ≤ n) (hn2 : n ≤ 9223372036854775807) :
    Ev (fun k => environref02_right.f k s how m e n f) (rightS s how (okB (pd s) m.natAbs e) (okB (pd s) n.natAbs f)) := by
  unfold rightS
  have hv1 := rvalid_is s m e hm hm2
  have hv2 := rvalid_is s n f hn hn2
  rcases er_or s with hs | hs
  · rw [hs, show decide ((0 : Int) = 0) = true from rfl, Bool.true_and] at hv1 hv2
    have hbad : Ev (fun k => environref02_right.j0 k s true m e n f) 1 := by
      refine Ev.step (f := fun _ => some 1) (fun k => ?_) (Ev.now _)
      simp only [environref02_right.j0]; rw [if_pos trivial]
    by_cases h0 : how < 0
    · rw [if_neg (by omega)]
      refine Ev.congr (fun k => ?_) hbad
      unfold environref02_right.f; rw [rdigits_is]; simp only [Option.bind_some]; rw [if_pos hs, if_pos h0]
    · by_cases h3 : how > 3
      · rw [if_neg (by omega)]
        refine Ev.congr (fun k => ?_) hbad
        unfold environref02_right.f; rw [rdigits_is]; simp only [Option.bind_some]; rw [if_pos hs, if_neg h0, decide_eq_true h3]
      · rw [if_pos ⟨hs, by omega, by omega⟩]
        refine Ev.congr (f := fun k => environref02_right.j0 k s false m e n f) (fun k => ?_) ?_
        · unfold environref02_right.f; rw [rdigits_is]; simp only [Option.bind_some]; rw [if_pos hs, if_neg h0, decide_eq_false h3]
        refine Ev.step (f := fun k => (environref02_Valid.f k s m e).bind fun t277 => if t277 = true then ((environref02_Valid.f k s n f).bind fun t278 => (if t278 = true then (some 0) else (some 11))) else (some 11)) (fun k => ?_) ?_
        · simp only [environref02_right.j0]; rw [if_neg (by simp)]
        refine Ev.bind hv1 ?_
        cases okB (pd s) m.natAbs e
        · exact Ev.now _
        · refine Ev.bind hv2 ?_
          cases okB (pd s) n.natAbs f <;> exact Ev.now _
  · rw [if_neg (by omega)]
    refine Ev.congr (f := fun _ => some 1) (fun k => ?_) (Ev.now _)
    unfold environref02_right.f; rw [rdigits_is]; simp only [Option.bind_some]; rw [if_neg (by omega), hs]
theorem exactly_is (m e : Int) (hm : -9223372036854775808 ≤ m) (hm2 : m ≤ 9223372036854775807) : Ev (fun k => environref02_Exactly.f k m e) (decide (m < 0), dl m.natAbs, e, false) := by
  unfold environref02_Exactly.f; exact Ev.bind (of_is hm hm2) (Ev.now _)
theorem pdigits_is (s : Int) : reals_Digits.f s = some ((pd s : Int), er s) := by
  unfold reals_Digits.f pd er
  split
  · rfl
  · split
    · rfl
    · split <;> rfl
theorem hl_small {n : Nat} (h : n < 18446744073709551616) : hiw n = 0 ∧ low n = (n : Int) := by
  unfold hiw low; omega
theorem mag_is {m : Int} (h : -9223372036854775808 ≤ m) (h' : m ≤ 9223372036854775807) : reals_magnitude.f m = some (hiw m.natAbs, low m.natAbs) := by
  have hs := hl_small (n := m.natAbs) (by omega)
  rw [hs.1, hs.2]
  unfold reals_magnitude.f
  simp only [IntKind.wrap_u64]
  split
  · congr 2; omega
  · congr 2; omega
theorem two128 {n : Nat} (h : n ≤ 9223372036854775808) : n < 340282366920938463463374607431768211456 := by omega
theorem pdig_is {n : Nat} (h : n < 340282366920938463463374607431768211456) : reals_wide_digits.f (hiw n) (low n) = some ((dg n : Nat) : Int) := by
  unfold reals_wide_digits.f
  have hu := hl_u h
  rw [if_pos hu, wv_hl]
theorem tmod_ten (m : Int) : (Int.tmod m 10 = 0) ↔ m.natAbs % 10 = 0 := by
  rcases Int.lt_or_le m 0 with h | h
  · have : m = -((m.natAbs : Nat) : Int) := by omega
    generalize m.natAbs = n at *
    subst this
    rw [Int.neg_tmod, Int.tmod_eq_emod_of_nonneg (by omega)]; omega
  · have : m = ((m.natAbs : Nat) : Int) := by omega
    generalize m.natAbs = n at *
    subst this
    rw [Int.tmod_eq_emod_of_nonneg (by omega)]; omega
theorem valid_j0 (k : Nat) (h l p e : Int) (d : Nat) (m : Int) (hm : reals_magnitude.f m = some (h, l)) (hd : reals_wide_digits.f h l = some (d : Int)) : reals_Valid.j0 (k + 1) p false m e = some (decide ((wrap64 (d + (mx (wrap64 (e - 400)) 0))) ≤ p)) := by
  simp only [reals_Valid.j0]; rw [if_neg (by simp), hm]; simp only [Option.bind_some]; rw [hd]; simp only [Option.bind_some]
theorem pvalid_is (s m e : Int) (hm : -9223372036854775808 ≤ m) (hm2 : m ≤ 9223372036854775807) : Ev (fun k => reals_Valid.f k s m e) (decide (er s = 0) && okB (pd s) m.natAbs e) := by
  by_cases hs : er s = 0
  · have hp := pd_of hs
    rw [hs, show decide ((0 : Int) = 0) = true from rfl, Bool.true_and]
    unfold okB
    by_cases h0 : m = 0
    · subst h0
      refine Ev.congr (f := fun _ => some (decide (e = 0))) (fun k => ?_) (Ev.now _)
      unfold reals_Valid.f; rw [pdigits_is]; simp only [Option.bind_some]; rw [if_pos hs, if_pos trivial]; rfl
    · have hz : m.natAbs ≠ 0 := by omega
      have hds := dg_small (n := m.natAbs) (by omega)
      have hdg := pdig_is (two128 (n := m.natAbs) (by omega))
      have hmg := mag_is hm hm2
      rw [if_neg hz]
      have bad : Ev (fun k => reals_Valid.j0 k (pd s) true m e) false := by
        refine Ev.step (f := fun _ => some false) (fun k => ?_) (Ev.now _)
        simp only [reals_Valid.j0]; rw [if_pos trivial]
      by_cases h1 : m.natAbs % 10 = 0
      · rw [decide_eq_false (fun h => h.1 h1)]
        refine Ev.congr (fun k => ?_) bad
        unfold reals_Valid.f; rw [pdigits_is]; simp only [Option.bind_some]; rw [if_pos hs, if_neg h0, if_pos ((tmod_ten m).2 h1)]
      · have h1' : ¬ Int.tmod m 10 = 0 := fun h => h1 ((tmod_ten m).1 h)
        by_cases h2 : e < -400
        · rw [decide_eq_false (fun h => by have := h.2.2.1; omega)]
          refine Ev.congr (fun k => ?_) bad
          unfold reals_Valid.f; rw [pdigits_is]; simp only [Option.bind_some]; rw [if_pos hs, if_neg h0, if_neg h1', if_pos h2]
        · by_cases h3 : e > 400 + pd s
          · rw [decide_eq_false (fun h => by have := h.2.2.2; omega)]
            refine Ev.congr (fun k => ?_) bad
            unfold reals_Valid.f; rw [pdigits_is]; simp only [Option.bind_some]; rw [if_pos hs, if_neg h0, if_neg h1', if_neg h2, x64 (by omega) (by omega), decide_eq_true h3]
          · refine Ev.congr (f := fun k => reals_Valid.j0 k (pd s) false m e) (fun k => ?_) ?_
            · unfold reals_Valid.f; rw [pdigits_is]; simp only [Option.bind_some]; rw [if_pos hs, if_neg h0, if_neg h1', if_neg h2, x64 (by omega) (by omega), decide_eq_false h3]
            refine Ev.step (f := fun _ => some (decide (((dg m.natAbs : Nat) : Int) + mx (e - 400) 0 ≤ pd s))) (fun k => ?_) ?_
            · rw [valid_j0 k _ _ _ e _ m hmg hdg]
              rw [x64 (n := e - 400) (by omega) (by omega), x64 (by unfold mx; split <;> omega) (by unfold mx; split <;> omega)]
            have : decide (((dg m.natAbs : Nat) : Int) + mx (e - 400) 0 ≤ pd s) = decide (m.natAbs % 10 ≠ 0 ∧ dg m.natAbs ≤ pd s ∧ -400 ≤ e ∧ e + dg m.natAbs ≤ pd s + 400) := by
              rw [decide_eq_decide]; unfold mx; constructor
              · intro h; split at h <;> exact ⟨h1, by omega, by omega, by omega⟩
              · rintro ⟨a, b, c, d⟩; split <;> omega
            rw [this]; exact Ev.now _
  · refine Ev.congr (f := fun _ => some false) (fun k => ?_) ?_
    · unfold reals_Valid.f; rw [pdigits_is]; simp only [Option.bind_some]; rw [if_neg hs]
    rw [decide_eq_false hs, Bool.false_and]; exact Ev.now _
/-- what check returns -/
def checkS (s how : Int) (ok : Bool) : Int × Int := if er s = 0 ∧ 0 ≤ how ∧ how ≤ 3 then (if ok = true then ((pd s : Int), 0) else (0, 11)) else (0, 1)
theorem check_l0 (s : Int) (hs : er s = 0) (l : List S29) (hl : ∀ x ∈ l, -9223372036854775808 ≤ x.f0 ∧ x.f0 ≤ 9223372036854775807) (hn : l.length ≤ 1000) : ∀ (n i : Nat), i + n = l.length →
    Ev (fun k => reals_check.l0 k s (pd s) l (l.length : Int) (i : Int)) (if (l.drop i).all (fun x => okB (pd s) x.f0.natAbs x.f1) = true then ((pd s : Int), 0) else (0, 11)) := by
  intro n
  induction n with
  | zero =>
    intro i hi
    rw [List.drop_eq_nil_of_le (by omega)]
    refine Ev.step (f := fun _ => some ((pd s : Int), 0)) (fun k => ?_) (Ev.now _)
    simp only [reals_check.l0]; rw [if_neg (by omega)]
  | succ n ih =>
    intro i hi
    have hlt : i < l.length := by omega
    have hrd : rd_T29 l (i : Int) = l[i] := by unfold rd_T29; rw [Int.toNat_natCast, List.getD_eq_getElem?_getD, List.getElem?_eq_getElem hlt]; rfl
    have hb := hl l[i] (List.getElem_mem hlt)
    have hv := pvalid_is s l[i].f0 l[i].f1 hb.1 hb.2
    rw [hs, show decide ((0 : Int) = 0) = true from rfl, Bool.true_and] at hv
    rw [List.drop_eq_getElem_cons hlt, List.all_cons]
    refine Ev.step (f := fun k => (reals_Valid.f k s l[i].f0 l[i].f1).bind fun t112 => if t112 = true then reals_check.l0 k s (pd s) l (l.length : Int) ((i + 1 : Nat) : Int) else some (0, 11)) (fun k => ?_) ?_
    · simp only [reals_check.l0]; rw [if_pos (by omega), if_pos (by omega), if_pos (by omega), hrd, x64 (by omega) (by omega)]; rfl
    refine Ev.bind hv ?_
    cases okB (pd s) l[i].f0.natAbs l[i].f1
    · exact Ev.now _
    · rw [Bool.true_and]; exact ih (i + 1) (by omega)
theorem check_is (s how : Int) (l : List S29) (hl : ∀ x ∈ l, -9223372036854775808 ≤ x.f0 ∧ x.f0 ≤ 9223372036854775807) (hn : l.length ≤ 1000) : Ev (fun k => reals_check.f k s how l) (checkS s how (l.all fun x => okB (pd s) x.f0.natAbs x.f1)) := by
  unfold checkS
  have bad : ∀ p : Int, Ev (fun k => reals_check.j0 k s l p true) (0, 1) := by
    intro p
    refine Ev.step (f := fun _ => some (0, 1)) (fun k => ?_) (Ev.now _)
    simp only [reals_check.j0]; rw [if_pos trivial]
  rcases er_or s with hs | hs
  · by_cases h0 : how < 0
    · rw [if_neg (by omega)]
      refine Ev.congr (fun k => ?_) (bad (pd s))
      unfold reals_check.f; rw [pdigits_is]; simp only [Option.bind_some]; rw [if_pos hs, if_pos h0]
    · by_cases h3 : how > 3
      · rw [if_neg (by omega)]
        refine Ev.congr (fun k => ?_) (bad (pd s))
        unfold reals_check.f; rw [pdigits_is]; simp only [Option.bind_some]; rw [if_pos hs, if_neg h0, decide_eq_true h3]
      · rw [if_pos ⟨hs, by omega, by omega⟩]
        refine Ev.congr (f := fun k => reals_check.j0 k s l (pd s) false) (fun k => ?_) ?_
        · unfold reals_check.f; rw [pdigits_is]; simp only [Option.bind_some]; rw [if_pos hs, if_neg h0, decide_eq_false h3]
        refine Ev.step (fun k => ?_) (check_l0 s hs l hl hn l.length 0 (by omega))
        simp only [reals_check.j0]; rw [if_neg (by simp)]; rfl
  · rw [if_neg (by omega)]
    refine Ev.congr (fun k => ?_) (bad (pd s))
    unfold reals_check.f; rw [pdigits_is]; simp only [Option.bind_some]; rw [if_neg (by omega)]
theorem plus_is {n m : Nat} (h : n + m < 340282366920938463463374607431768211456) : reals_wide_plus.f (hiw n) (low n) (hiw m) (low m) = some (hiw (n + m), low (n + m)) := by
  unfold reals_wide_plus.f
  have h1 := hl_u (n := n) (by omega)
  have h2 := hl_u (n := m) (by omega)
  rw [if_pos ⟨h1.1, h1.2, h2.1, h2.2⟩]
  unfold hiw low u64s
  congr 2 <;> omega
theorem cutS_is {n : Nat} (h : n < 340282366920938463463374607431768211456) (d : Nat) (more : Bool) : cutS n d more = cutG n d more := by
  unfold cutS cutG
  by_cases h0 : d = 0
  · rw [if_pos h0, if_pos h0]
  · rw [if_neg h0, if_neg h0]
    by_cases h1 : 38 < d
    · rw [if_pos h1]
      have h39 : 10 ^ 39 ≤ 10 ^ d := Nat.pow_le_pow_right (by decide) h1
      have hlt : n < 10 ^ d := by omega
      rw [Nat.div_eq_of_lt hlt, Nat.mod_eq_of_lt hlt]
      have : sdS n (10 ^ d) more = -1 := by unfold sdS; rw [if_neg (by omega), if_pos (by omega)]
      rw [this]
    · rw [if_neg h1]; rfl
theorem pcut_is {n : Nat} (h : n < 340282366920938463463374607431768211456) {d : Nat} (hd : d ≤ 1000000) (more : Bool) : reals_wide_cut.f (hiw n) (low n) (d : Int) more = some (hiw (cutG n d more).1, low (cutG n d more).1, (cutG n d more).2) := by
  unfold reals_wide_cut.f
  rw [if_pos ⟨hl_u h, by omega, by omega⟩, wv_hl, Int.toNat_natCast, cutS_is h]
theorem and_one (z : Int) (h0 : 0 ≤ z) (h1 : z < 18446744073709551616) : Go.bits .and .u64 z 1 = z % 2 := by
  obtain ⟨n, rfl⟩ := Int.eq_ofNat_of_zero_le h0
  have h := bits_and_u64_nat n 1 (by omega) (by decide)
  rw [show (1 : Int) = ((1 : Nat) : Int) from rfl, h, Nat.and_one_is_mod]; rfl
theorem paway_is (how : Int) (h0 : 0 ≤ how) (h3 : how ≤ 3) (neg : Bool) (x y z : Int) (b : Bool) (odd : Bool) (half : Int) (left : Bool) : reals_exact_away.f neg x y z b how odd half left = some (awayS how neg odd half left) := by
  unfold reals_exact_away.f awayS
  have hh : how = 0 ∨ how = 1 ∨ how = 2 ∨ how = 3 := by omega
  rcases hh with rfl | rfl | rfl | rfl
  · rw [if_pos rfl, if_pos rfl]
    by_cases h : half > 0
    · rw [if_pos h, decide_eq_true h]; rfl
    · rw [if_neg h, decide_eq_false h]
      by_cases h' : half = 0
      · rw [if_pos h', decide_eq_true h']; rfl
      · rw [if_neg h', decide_eq_false h']; rfl
  · cases neg <;> cases left <;> rfl
  · cases neg <;> cases left <;> rfl
  · cases neg <;> cases left <;> rfl
theorem over_ev {n c : Nat} (hn : n < 340282366920938463463374607431768211456) (hc0 : 0 < c) (hc : c < 18446744073709551616) : Ev (fun k => reals_wide_over.f k (hiw n) (low n) c) (hiw (n / c), low (n / c), ((n % c : Nat) : Int)) :=
  ⟨14, fun k hk => by obtain ⟨j, rfl⟩ : ∃ j, k = j + 14 := ⟨k - 14, by omega⟩; exact over_is hn hc0 hc j⟩
theorem power_ev {d : Nat} (hd : d ≤ 38) : Ev (fun k => reals_power.f k d) (hiw (10 ^ d), low (10 ^ d)) := ⟨d + 1, fun k hk => power_is hd k (by omega)⟩
theorem scaled_ev {n d : Nat} (hd : d ≤ 1000) (h : n * 10 ^ d < 340282366920938463463374607431768211456) : Ev (fun k => reals_wide_scaled.f k (hiw n) (low n) d) (hiw (n * 10 ^ d), low (n * 10 ^ d)) := ⟨d + 1, fun k hk => scaled_is hd h k (by omega)⟩
theorem round_l0 (neg : Bool) (y z u : Int) (b : Bool) : ∀ (q : Nat) (t : Int), q ≠ 0 → q ≤ 1000000000000000000 → -100000 ≤ t → t + dg q ≤ 100000 → Ev (fun k => reals_exact_round.l0 k t neg y z u b (hiw q) (low q)) (flat (real neg (strip q t))) := by
  intro q
  induction q using Nat.strongRecOn with
  | ind q ih =>
    intro t hq hq2 ht ht2
    have hp := dg_pos hq
    have hs := hl_small (n := q) (by omega)
    by_cases h0 : q % 10 = 0
    · rw [show strip q t = strip (q / 10) (t + 1) by rw [strip, dif_neg hq, if_pos h0]]
      refine Ev.step (f := fun k => (reals_wide_over.f k (hiw q) (low q) 10).bind fun bt151 => (if bt151.2.2 = 0 then (reals_exact_round.l0 k (wrap64 (t + 1)) neg y z u b bt151.1 bt151.2.1) else (if neg = true then (some (wrap64 (-(wrap64 (low q))), t, 0)) else (some (wrap64 (low q), t, 0))))) (fun k => ?_) ?_
      · simp only [reals_exact_round.l0]
      refine Ev.bind (over_ev (c := 10) (by omega) (by decide) (by decide)) ?_
      rw [h0, x64 (by omega) (by omega)]
      exact ih (q / 10) (by omega) (t + 1) (by omega) (by omega) (by omega) (by omega)
    · rw [show strip q t = (q, t) by rw [strip, dif_neg hq, if_neg h0]]
      refine Ev.step (f := fun k => (reals_wide_over.f k (hiw q) (low q) 10).bind fun bt151 => (if bt151.2.2 = 0 then (reals_exact_round.l0 k (wrap64 (t + 1)) neg y z u b bt151.1 bt151.2.1) else (if neg = true then (some (wrap64 (-(wrap64 (low q))), t, 0)) else (some (wrap64 (low q), t, 0))))) (fun k => ?_) ?_
      · simp only [reals_exact_round.l0]
      refine Ev.bind (over_ev (c := 10) (by omega) (by decide) (by decide)) ?_
      have hq9 : q < 1000000000000000000 := by omega
      have hne : ¬ (((q % 10 : Nat) : Int) = 0) := by omega
      have hw1 : wrap64 (q : Int) = q := x64 (by clear hs; omega) (by clear hs; omega)
      have hw2 : wrap64 (-(q : Int)) = -q := x64 (by clear hs hw1; omega) (by clear hs hw1; omega)
      simp only [if_neg hne, hs.2, hw1, hw2]
      unfold flat real sgn
      cases neg
      · simp only [Bool.false_eq_true, if_false]; exact Ev.now _
      · simp only [if_true]; exact Ev.now _
theorem round_j3 (neg : Bool) (y z u : Int) (b : Bool) (q : Nat) (t : Int) (hq : q ≠ 0) (hq2 : q ≤ 1000000000000000000) (ht : -50000 ≤ t) (ht2 : t ≤ 50000) : Ev (fun k => reals_exact_round.j3 k t neg y z u b (hiw q) (low q)) (flat (real neg (strip q t))) := by
  have := dg_small (n := q) (by omega)
  refine Ev.step (fun k => ?_) (round_l0 neg y z u b q t hq hq2 (by omega) (by omega))
  simp only [reals_exact_round.j3]
theorem round_j2 (p : Nat) (hp : p ≤ 18) (hp0 : p ≠ 0) (x neg : Bool) (y z u : Int) (b : Bool) : Ev (fun k => reals_exact_round.j2 k (p : Int) x neg y z u b) (flat (if x = true then ((0, 0), 11) else real neg (10 ^ p - 1, 400))) := by
  cases x
  · have h18 : 10 ^ p ≤ 10 ^ 18 := Nat.pow_le_pow_right (by decide) hp
    have h10 : 10 ^ p = 10 * 10 ^ (p - 1) := by rw [Nat.mul_comm, ← Nat.pow_succ]; congr 1; omega
    have hz := p10 (p - 1)
    refine Ev.step (f := fun k => (reals_power.f k p).bind fun bt147 => (reals_wide_minus.f bt147.1 bt147.2 0 1).bind fun bt149 => reals_exact_round.j3 k 400 neg y z u b bt149.1 bt149.2) (fun k => ?_) ?_
    · simp only [reals_exact_round.j2]; rw [if_neg (by simp)]
    refine Ev.bind (power_ev (by omega)) ?_
    have hm := minus_is (n := 10 ^ p) (m := 1) (by omega) (by omega)
    rw [show hiw 1 = 0 from rfl, show low 1 = 1 from rfl] at hm
    dsimp only
    rw [hm]; simp only [Option.bind_some]
    have h := round_j3 neg y z u b (10 ^ p - 1) 400 (by omega) (by omega) (by omega) (by omega)
    rw [strip_ok (fun h => by omega) (fun _ => by omega)] at h
    exact h
  · refine Ev.step (f := fun _ => some (0, 0, 11)) (fun k => ?_) (Ev.now _)
    simp only [reals_exact_round.j2]; rw [if_pos trivial]
theorem round_j1 (p : Nat) (hp : p ≤ 18) (hp0 : p ≠ 0) (how : Int) (h0 : 0 ≤ how) (h3 : how ≤ 3) (neg : Bool) (y z u : Int) (b : Bool) (q : Nat) (hq : q ≤ 1000000000000000000) (t : Int) (ht : -50000 ≤ t) (ht2 : t ≤ 50000) :
    Ev (fun k => reals_exact_round.j1 k (p : Int) how t neg y z u b (hiw q) (low q)) (flat (if q = 0 then ((0, 0), 0) else if dg q + max (t - 400) 0 > p then (if how = 0 ∨ how = 1 ∧ neg = false ∨ how = 2 ∧ neg = true then ((0, 0), 11) else real neg (10 ^ p - 1, 400)) else real neg (strip q t))) := by
  have hs := hl_small (n := q) (by omega)
  have hd := dg_small (n := q) (by omega)
  by_cases hz : q = 0
  · subst hz
    refine Ev.step (f := fun _ => some (0, 0, 0)) (fun k => ?_) (Ev.now _)
    simp only [reals_exact_round.j1]; rw [if_pos (by decide)]
  · have hb : ¬ ((hiw q == 0 && (low q == 0)) = true) := by
      rw [hs.2, Bool.and_eq_true, beq_iff_eq, beq_iff_eq]; omega
    have hdg := pdig_is (n := q) (by omega)
    have hw : Aside0 (wrap64 (((dg q : Nat) : Int) + (mx (wrap64 (t - 400)) 0)) = (dg q : Int) + max (t - 400) 0) := ⟨by
      rw [x64 (n := t - 400) (by omega) (by omega)]
      have : mx (t - 400) 0 = max (t - 400) 0 := by unfold mx; split <;> omega
      rw [this]; exact x64 (by omega) (by omega)⟩
    rw [if_neg hz]
    by_cases ho : (dg q : Int) + max (t - 400) 0 > p
    · rw [if_pos ho]
      have key : ∀ x : Bool, (∀ k, reals_exact_round.j1 (k + 1) (p : Int) how t neg y z u b (hiw q) (low q) = reals_exact_round.j2 k (p : Int) x neg y z u b) → (x = true ↔ (how = 0 ∨ how = 1 ∧ neg = false ∨ how = 2 ∧ neg = true)) → Ev (fun k => reals_exact_round.j1 k (p : Int) how t neg y z u b (hiw q) (low q)) (flat (if how = 0 ∨ how = 1 ∧ neg = false ∨ how = 2 ∧ neg = true then ((0, 0), 11) else real neg (10 ^ p - 1, 400))) := by
        intro x hx hiff
        have h : Ev (fun k => reals_exact_round.j1 k (p : Int) how t neg y z u b (hiw q) (low q)) _ := Ev.step hx (round_j2 p hp hp0 x neg y z u b)
        by_cases hc : how = 0 ∨ how = 1 ∧ neg = false ∨ how = 2 ∧ neg = true
        · rw [if_pos (hiff.2 hc)] at h; rw [if_pos hc]; exact h
        · rw [if_neg (fun h => hc (hiff.1 h))] at h; rw [if_neg hc]; exact h
      have hh : how = 0 ∨ how = 1 ∨ how = 2 ∨ how = 3 := by omega
      rcases hh with rfl | rfl | rfl | rfl
      · refine key true (fun k => ?_) (by simp)
        simp only [reals_exact_round.j1]; rw [if_neg hb, hdg]; simp only [Option.bind_some]; rw [hw.out, if_pos ho, if_pos trivial]
      · refine key (!neg) (fun k => ?_) (by cases neg <;> simp)
        simp only [reals_exact_round.j1]; rw [if_neg hb, hdg]; simp only [Option.bind_some]; rw [hw.out, if_pos ho, if_neg (by decide), if_pos trivial]
        cases neg
        · rw [if_neg (by decide)]; rfl
        · rw [if_pos rfl, if_neg (by decide)]; rfl
      · refine key neg (fun k => ?_) (by cases neg <;> simp)
        simp only [reals_exact_round.j1]; rw [if_neg hb, hdg]; simp only [Option.bind_some]; rw [hw.out, if_pos ho, if_neg (by decide), if_neg (by decide), if_pos trivial]
      · refine key false (fun k => ?_) (by simp)
        simp only [reals_exact_round.j1]; rw [if_neg hb, hdg]; simp only [Option.bind_some]; rw [hw.out, if_pos ho, if_neg (by decide), if_neg (by decide), if_neg (by decide)]
    · rw [if_neg ho]
      refine Ev.step (fun k => ?_) (round_j3 neg y z u b q t hz hq ht ht2)
      simp only [reals_exact_round.j1]; rw [if_neg hb, hdg]; simp only [Option.bind_some]; rw [hw.out, if_neg ho]
theorem round_j0 (p : Nat) (hp : p ≤ 18) (hp0 : p ≠ 0) (how : Int) (h0 : 0 ≤ how) (h3 : how ≤ 3) (neg : Bool) (y z u : Int) (b : Bool) (q : Nat) (hq : q ≤ 10 ^ p) (d : Int) (ht : -40000 ≤ u + d) (ht2 : u + d ≤ 40000) :
    Ev (fun k => reals_exact_round.j0 k (p : Int) how d neg y z u b (hiw q) (low q)) (flat (fin p how neg q (u + d))) := by
  have h18 : 10 ^ p ≤ 10 ^ 18 := Nat.pow_le_pow_right (by decide) hp
  have hdg := pdig_is (n := q) (by omega)
  have hw : Aside0 (wrap64 (u + d) = u + d) := ⟨x64 (by omega) (by omega)⟩
  have hw2 : Aside0 (wrap64 (u + d + 1) = u + d + 1) := ⟨x64 (by omega) (by omega)⟩
  rw [← finP_is hp0 how neg hq]
  unfold finP
  by_cases h : dg q > p
  · simp only [if_pos h]
    refine Ev.step (f := fun k => (reals_wide_over.f k (hiw q) (low q) 10).bind fun bt143 => reals_exact_round.j1 k p how (u + d + 1) neg y z u b bt143.1 bt143.2.1) (fun k => ?_) ?_
    · simp only [reals_exact_round.j0]; rw [hdg]; simp only [Option.bind_some]; rw [if_pos (by omega), hw.out, hw2.out]
    refine Ev.bind (over_ev (c := 10) (by omega) (by decide) (by decide)) ?_
    exact round_j1 p hp hp0 how h0 h3 neg y z u b (q / 10) (by omega) (u + d + 1) (by omega) (by omega)
  · simp only [if_neg h]
    refine Ev.step (fun k => ?_) (round_j1 p hp hp0 how h0 h3 neg y z u b q (by omega) (u + d) (by omega) (by omega))
    simp only [reals_exact_round.j0]; rw [hdg]; simp only [Option.bind_some]; rw [if_neg (by omega), hw.out]
theorem round_step (k : Nat) (neg : Bool) (H L e : Int) (more : Bool) (p how t d CH CL half : Int) (ine odd a : Bool) (hdg : reals_wide_digits.f H L = some t) (hdrop : mx (mx (wrap64 (t - p)) (wrap64 ((-400) - e))) 0 = d) (hcut : reals_wide_cut.f H L d more = some (CH, CL, half, ine)) (hodd : ((Go.bits .and .u64 CL 1) == 1) = odd) (ha : reals_exact_away.f neg H L e more how odd half ine = some a) :
    reals_exact_round.f k neg H L e more p how = if a = true then ((reals_wide_plus.f CH CL 0 1).bind fun bt140 => (reals_exact_round.j0 k p how d neg H L e more bt140.1 bt140.2)) else (reals_exact_round.j0 k p how d neg H L e more CH CL) := by
  unfold reals_exact_round.f; rw [hdg]; simp only [Option.bind_some]; rw [hdrop, hcut]; simp only [Option.bind_some]; rw [hodd, ha]; simp only [Option.bind_some]
theorem round_is {s : Int} (hs : er s = 0) (how : Int) (h0 : 0 ≤ how) (h3 : how ≤ 3) (neg : Bool) {n : Nat} (hn : n < 340282366920938463463374607431768211456) (e : Int) (he : -15000 ≤ e) (he2 : e ≤ 15000) (more : Bool) :
    Ev (fun k => reals_exact_round.f k neg (hiw n) (low n) e more (pd s) how) (flat (rnd (pd s) how neg n e more)) := by
  have hp := pd_of hs
  have hd := dg_small (n := n) (by omega)
  have hdg := pdig_is hn
  have hdrop : Aside0 (mx (mx (wrap64 (((dg n : Nat) : Int) - (pd s : Int))) (wrap64 ((-400) - e))) 0 = ((dropS (pd s) n e : Nat) : Int)) := ⟨by
    rw [x64 (n := ((dg n : Nat) : Int) - (pd s : Int)) (by omega) (by omega), x64 (by omega) (by omega)]
    unfold mx dropS; split <;> split <;> omega⟩
  have hD : dropS (pd s) n e ≤ 20000 := by unfold dropS; omega
  have hcut := pcut_is hn (d := dropS (pd s) n e) (by omega) more
  have hup := up_lt (pd s) how neg n e more
  have h18 : 10 ^ pd s ≤ 10 ^ 18 := Nat.pow_le_pow_right (by decide) (by omega)
  have hg : -400 ≤ e + (dropS (pd s) n e : Int) := by unfold dropS; omega
  unfold rnd
  generalize hc : cutG n (dropS (pd s) n e) more = c at *
  have hq0 : c.1 ≤ n := by
    rw [← hc]; unfold cutG; split
    · exact Nat.le_refl _
    · exact Nat.div_le_self _ _
  have hu := hl_u (n := c.1) (by omega)
  have hodd : ((Go.bits .and .u64 (low c.1) 1) == 1) = decide (c.1 % 2 = 1) := by
    have := hu.2.out; unfold u64s at this
    rw [and_one _ this.1 this.2, Bool.eq_iff_iff, beq_iff_eq, decide_eq_true_eq]
    unfold low; omega
  have hj := round_j0 (pd s) (by omega) (by omega) how h0 h3 neg (hiw n) (low n) e more (up how neg c) hup (dropS (pd s) n e) (by omega) (by omega)
  refine Ev.congr (f := fun k => if awayS how neg (decide (c.1 % 2 = 1)) c.2.1 c.2.2 = true then ((reals_wide_plus.f (hiw c.1) (low c.1) 0 1).bind fun bt140 => (reals_exact_round.j0 k (pd s) how (dropS (pd s) n e : Nat) neg (hiw n) (low n) e more bt140.1 bt140.2)) else (reals_exact_round.j0 k (pd s) how (dropS (pd s) n e : Nat) neg (hiw n) (low n) e more (hiw c.1) (low c.1))) (fun k => ?_) ?_
  · exact round_step k neg _ _ e more _ how _ _ _ _ _ _ _ _ hdg hdrop.out hcut hodd (paway_is how h0 h3 neg _ _ e more _ _ _)
  by_cases ha : awayS how neg (decide (c.1 % 2 = 1)) c.2.1 c.2.2 = true
  · have huu : up how neg c = c.1 + 1 := by unfold up; rw [if_pos ha]
    have hpl := plus_is (n := c.1) (m := 1) (by omega)
    rw [show hiw 1 = 0 from rfl, show low 1 = 1 from rfl] at hpl
    refine Ev.congr (fun k => ?_) hj
    rw [if_pos ha, hpl, huu]; rfl
  · have huu : up how neg c = c.1 := by unfold up; rw [if_neg ha]; rfl
    refine Ev.congr (fun k => ?_) hj
    rw [if_neg ha, huu]
theorem pof_is {m e : Int} (h : -9223372036854775808 ≤ m) (h' : m ≤ 9223372036854775807) : reals_of.f m e = some (decide (m < 0), hiw m.natAbs, low m.natAbs, e, false) := by
  unfold reals_of.f; rw [mag_is h h']; rfl
/-- the value of a number above 0, in units of 10 to the power of -400 -/
def V (x : Nat × Int) : Nat := x.1 * 10 ^ (x.2 + 400).toNat
theorem dg_mono' {n1 n2 : Nat} (h : n1 ≤ n2) : dg n1 ≤ dg n2 := by
  rw [dg_le_iff]; exact Nat.lt_of_le_of_lt h (dg_lt n2)
/-- the value of a list of any numbers -/
def vI : List Int → Int | [] => 0 | d :: l => d + 10 * vI l
theorem vI_zeros (n : Nat) : vI (List.replicate n 0) = 0 := by
  induction n with | zero => rfl | succ n ih => rw [List.replicate_succ, vI, ih]; rfl
theorem vI_set : ∀ (l : List Int) (i : Nat) (x : Int), i < l.length → vI (l.set i x) = vI l + 10 ^ i * (x - l.getD i 0) := by
  intro l
  induction l with
  | nil => intro i x h; simp at h
  | cons d l ih =>
    intro i x h
    cases i with
    | zero => simp only [List.set_cons_zero, vI, List.getD_cons_zero, Int.pow_zero]; omega
    | succ i =>
      simp only [List.set_cons_succ, vI, List.getD_cons_succ]
      rw [ih i x (by simpa using h), Int.pow_succ, Int.mul_add, ← Int.mul_assoc, Int.mul_comm 10 (10 ^ i)]; omega
theorem vI_dg {l : List Int} (h : Dg l) : vI l = (vl l : Int) := by
  induction l with
  | nil => rfl
  | cons d l ih => have := h.head; simp only [vI, vl, ih h.tail]; omega
theorem getD_set (l : List Int) (i k : Nat) (x : Int) (h : i < l.length) : (l.set i x).getD k 0 = if k = i then x else l.getD k 0 := by
  rw [List.getD_eq_getElem?_getD, List.getD_eq_getElem?_getD, List.getElem?_set]
  by_cases e : i = k
  · subst e; rw [if_pos rfl, if_pos h, if_pos rfl]; rfl
  · rw [if_neg e, if_neg (fun h => e h.symm)]
theorem rd_set (l : List Int) (i : Nat) (k : Nat) (x : Int) (h : i < l.length) : rd (l.set i x) (k : Int) = if k = i then x else rd l (k : Int) := by
  rw [rd_nat, rd_nat, getD_set l i k x h]
/-- the value is at least that of one place -/
theorem vI_ge : ∀ (l : List Int) (i : Nat), (∀ k : Nat, 0 ≤ l.getD k 0) → 10 ^ i * l.getD i 0 ≤ vI l := by
  intro l
  induction l with
  | nil => intro i _; simp [vI]
  | cons d l ih =>
    intro i h
    have hl : ∀ k : Nat, 0 ≤ l.getD k 0 := fun k => by have := h (k + 1); simpa using this
    have hd : 0 ≤ d := by have := h 0; simpa using this
    cases i with
    | zero =>
      have := ih 0 hl
      have h0 := hl 0
      simp only [List.getD_cons_zero, Int.pow_zero, vI] at *; omega
    | succ i =>
      have := ih i hl
      simp only [List.getD_cons_succ, vI]
      rw [Int.pow_succ, Int.mul_comm (10 ^ i) 10, Int.mul_assoc]; omega
/-- the carries -/
theorem times_l2 (v N B : Nat) (hN : N ≤ 200000) (hB : B ≤ 100000000000) (hv : v < 10 ^ N) : ∀ (n i : Nat) (out : List Int), out.length = N → i + n = N → vI out = (v : Int) → (∀ k : Nat, 0 ≤ out.getD k 0) → (∀ k : Nat, k < i → out.getD k 0 < 10) → (∀ k : Nat, i < k → out.getD k 0 ≤ B) → (i < N → out.getD i 0 ≤ 2 * B) → i ≤ N - 1 →
    Ev (fun k => environref02_times.l2 k out (i : Int)) (dl v) := by
  intro n
  induction n with
  | zero =>
    intro i out hl hi hval h0 hlow _ _ hle
    have hN0 : N = 0 := by omega
    subst hN0
    obtain rfl : out = [] := List.eq_nil_of_length_eq_zero hl
    obtain rfl : v = 0 := by simpa using hv
    have hw : Aside0 (wrap64 ((([] : List Int).length : Int) - 1) = -1) := ⟨by rw [x64 (by simp) (by simp)]; rfl⟩
    refine Ev.step (f := fun k => (environref02_trim.f k []).bind fun t => some t) (fun k => ?_) ?_
    · simp only [environref02_times.l2]; rw [hw.out, if_neg (by omega)]
    exact Ev.bind (trim_is (l := []) (by simp) Dg.nil) (Ev.now _)
  | succ n ih =>
    intro i out hl hi hval h0 hlow hhigh hmid hle
    have hw : Aside0 (wrap64 ((out.length : Int) - 1) = ((N - 1 : Nat) : Int)) := ⟨by rw [x64 (by omega) (by omega)]; omega⟩
    by_cases hlast : i = N - 1
    · -- the end: all are digits
      have hdig : out.getD i 0 < 10 := by
        have h1 := vI_ge out i h0
        rw [hval] at h1
        refine Int.lt_of_not_ge fun h10 => ?_
        have h2 : (10 : Int) ^ i * 10 ≤ 10 ^ i * out.getD i 0 := Int.mul_le_mul_of_nonneg_left h10 (Int.le_of_lt (Int.pow_pos (by decide)))
        have h3 : (10 : Int) ^ i * 10 = ((10 ^ N : Nat) : Int) := by
          have hi1 : i.succ = N := by omega
          rw [← Int.pow_succ, hi1]; simp
        have h4 : ((v : Nat) : Int) < ((10 ^ N : Nat) : Int) := Int.ofNat_lt.2 hv
        omega
      have hd : Dg out := by
        intro x hx
        obtain ⟨k, hk, rfl⟩ := List.mem_iff_getElem.1 hx
        have e : out.getD k 0 = out[k] := by rw [List.getD_eq_getElem?_getD, List.getElem?_eq_getElem hk]; rfl
        rw [← e]
        refine ⟨h0 k, ?_⟩
        by_cases hk2 : k < i
        · exact hlow k hk2
        · rw [show k = i by omega]; exact hdig
      have hvl : vl out = v := by have := vI_dg hd; omega
      refine Ev.step (f := fun k => (environref02_trim.f k out).bind fun t => some t) (fun k => ?_) ?_
      · simp only [environref02_times.l2]; rw [hw.out, if_neg (by omega)]
      rw [← hvl]
      exact Ev.bind (trim_is (by omega) hd) (Ev.now _)
    · have e1 : Aside0 (wrap64 ((i : Int) + 1) = ((i + 1 : Nat) : Int)) := ⟨by rw [x64 (by omega) (by omega)]; omega⟩
      have a0 := h0 i; have a1 := h0 (i + 1); have m0 := hmid (by omega); have m1 := hhigh (i + 1) (by omega)
      have hi0 : i < out.length := by omega
      have hi1 : i + 1 < out.length := by omega
      have r0 : rd out (i : Int) = out.getD i 0 := rd_nat _ _
      have r1 : rd out ((i + 1 : Nat) : Int) = out.getD (i + 1) 0 := rd_nat _ _
      generalize hx : out.getD i 0 = x at *
      generalize hy : out.getD (i + 1) 0 = y at *
      have hs1 : Aside0 (wrap64 (y + wrap64 (Int.tdiv x 10)) = y + x / 10) := ⟨by
        rw [Int.tdiv_eq_ediv_of_nonneg a0, x64 (n := x / 10) (by omega) (by omega)]; exact x64 (by omega) (by omega)⟩
      have hl1 : (out.set (i + 1) (y + x / 10)).length = N := by rw [List.length_set]; exact hl
      have r2 : rd (out.set (i + 1) (y + x / 10)) (i : Int) = x := by rw [rd_set _ _ _ _ hi1, if_neg (by omega)]; exact r0
      have hm : Aside0 (Int.tmod x 10 = x % 10) := ⟨Int.tmod_eq_emod_of_nonneg a0⟩
      have hg : ∀ k : Nat, ((out.set (i + 1) (y + x / 10)).set i (x % 10)).getD k 0 = if k = i then x % 10 else if k = i + 1 then y + x / 10 else out.getD k 0 := by
        intro k
        rw [getD_set _ _ _ _ (by rw [List.length_set]; omega), getD_set _ _ _ _ hi1]
      refine Ev.step (f := fun k => environref02_times.l2 k ((out.set (i + 1) (y + x / 10)).set i (x % 10)) ((i + 1 : Nat) : Int)) (fun k => ?_) ?_
      · simp only [environref02_times.l2]
        rw [hw.out, if_pos (by omega), e1.out, if_pos (by omega), if_pos (by omega), if_pos (by omega), if_pos (by omega), r0, r1, hs1.out]
        simp only [Option.bind_some]
        rw [Int.toNat_natCast, Int.toNat_natCast, r2, hm.out]
      refine ih (i + 1) _ (by rw [List.length_set]; exact hl1) (by omega) ?_ ?_ ?_ ?_ ?_ (by omega)
      · rw [vI_set _ _ _ (by rw [List.length_set]; omega), vI_set _ _ _ hi1, getD_set _ _ _ _ hi1, if_neg (by omega), hx, hy, hval, Int.pow_succ]
        have : (10 : Int) ^ i * 10 * (y + x / 10 - y) = 10 ^ i * (10 * (x / 10)) := by rw [Int.mul_assoc]; congr 1; omega
        rw [this, Int.add_assoc, ← Int.mul_add, show 10 * (x / 10) + (x % 10 - x) = 0 by omega, Int.mul_zero, Int.add_zero]
      · intro k; rw [hg]; split
        · omega
        · split
          · omega
          · exact h0 k
      · intro k hk; rw [hg]; split
        · omega
        · rw [if_neg (by omega)]; exact hlow k (by omega)
      · intro k hk; rw [hg, if_neg (by omega), if_neg (by omega)]; exact hhigh k (by omega)
      · intro _; rw [hg, if_neg (by omega), if_pos rfl]; omega
theorem mod_succ (b j : Nat) : b % 10 ^ (j + 1) = b % 10 ^ j + 10 ^ j * (b / 10 ^ j % 10) := by
  rw [Nat.pow_succ, Nat.mod_mul]
/-- the products of the digits -/
theorem times_l01 (a b : Nat) (ha : dg a ≤ 50000) (hb : dg b ≤ 50000) : ∀ (n i : Nat) (out : List Int), i + n = dg a → out.length = dg a + dg b → vI out = ((a % 10 ^ i * b : Nat) : Int) → (∀ k : Nat, 0 ≤ out.getD k 0 ∧ out.getD k 0 ≤ 81 * i) →
    Ev (fun k => environref02_times.l0 k (dl a) (dl b) out (i : Int)) (dl (a * b)) := by
  intro n
  induction n with
  | zero =>
    intro i out hi hl hv hb2
    have hla := len_dl a
    have hai : a % 10 ^ i = a := Nat.mod_eq_of_lt (by rw [show i = dg a by omega]; exact dg_lt a)
    rw [hai] at hv
    refine Ev.step (f := fun k => environref02_times.l2 k out 0) (fun k => ?_) ?_
    · simp only [environref02_times.l0]; rw [if_neg (by omega)]
    have hlt : a * b < 10 ^ (dg a + dg b) := by
      rw [Nat.pow_add]
      have h1 := dg_lt a; have h2 := dg_lt b
      by_cases hz : b = 0
      · subst hz; rw [Nat.mul_zero]; exact Nat.mul_pos (p10 _) (p10 _)
      · exact Nat.lt_of_lt_of_le (Nat.mul_lt_mul_of_pos_right h1 (Nat.pos_of_ne_zero hz)) (Nat.mul_le_mul_left _ (Nat.le_of_lt h2))
    exact times_l2 (a * b) (dg a + dg b) (81 * i) (by omega) (by omega) hlt (dg a + dg b) 0 out hl (by omega) hv (fun k => (hb2 k).1) (fun k hk => by omega) (fun k _ => (hb2 k).2) (fun _ => by have := (hb2 0).2; omega) (by omega)
  | succ n ih =>
    intro i out hi hl hv hb2
    have hla := len_dl a
    have hlb := len_dl b
    have ra := rd_dl (n := a) (i := i) (by omega)
    have hsa := mod_succ a i
    have hda : a / 10 ^ i % 10 < 10 := Nat.mod_lt _ (by decide)
    have inner : ∀ (m j : Nat) (o : List Int), j + m = dg b → o.length = dg a + dg b → vI o = ((a % 10 ^ i * b + 10 ^ i * (a / 10 ^ i % 10) * (b % 10 ^ j) : Nat) : Int) → (∀ k : Nat, 0 ≤ o.getD k 0 ∧ o.getD k 0 ≤ 81 * (i + 1) ∧ (i + j ≤ k → o.getD k 0 ≤ 81 * i)) →
        Ev (fun k => environref02_times.l1 k (dl a) (dl b) o (i : Int) (j : Int)) (dl (a * b)) := by
      intro m
      induction m with
      | zero =>
        intro j o hj hlo hvo hbo
        have hbj : b % 10 ^ j = b := Nat.mod_eq_of_lt (by rw [show j = dg b by omega]; exact dg_lt b)
        have e1 : Aside0 (wrap64 ((i : Int) + 1) = ((i + 1 : Nat) : Int)) := ⟨by rw [x64 (by omega) (by omega)]; omega⟩
        refine Ev.step (f := fun k => environref02_times.l0 k (dl a) (dl b) o ((i + 1 : Nat) : Int)) (fun k => ?_) ?_
        · simp only [environref02_times.l1]; rw [if_neg (by omega), e1.out]
        refine ih (i + 1) o (by omega) hlo ?_ (fun k => ⟨(hbo k).1, by have := (hbo k).2.1; omega⟩)
        rw [hvo, hbj, hsa, Nat.add_mul]
      | succ m ihm =>
        intro j o hj hlo hvo hbo
        have rb := rd_dl (n := b) (i := j) (by omega)
        have hsb := mod_succ b j
        have hdb : b / 10 ^ j % 10 < 10 := Nat.mod_lt _ (by decide)
        have e1 : Aside0 (wrap64 ((j : Int) + 1) = ((j + 1 : Nat) : Int)) := ⟨by rw [x64 (by omega) (by omega)]; omega⟩
        have e2 : Aside0 (wrap64 ((i : Int) + (j : Int)) = ((i + j : Nat) : Int)) := ⟨by rw [x64 (by omega) (by omega)]; omega⟩
        have ro : rd o ((i + j : Nat) : Int) = o.getD (i + j) 0 := rd_nat _ _
        have hbk := hbo (i + j)
        have hbk3 := hbk.2.2 (Nat.le_refl _)
        generalize hP : a / 10 ^ i % 10 = da at *
        generalize hQ : b / 10 ^ j % 10 = db at *
        have hprod : da * db ≤ 81 := Nat.le_trans (Nat.mul_le_mul (show da ≤ 9 by omega) (show db ≤ 9 by omega)) (by decide)
        have e3 : Aside0 (wrap64 ((da : Int) * (db : Int)) = ((da * db : Nat) : Int)) := ⟨by rw [← Int.natCast_mul]; exact x64 (by omega) (by omega)⟩
        have e4 : Aside0 (wrap64 (o.getD (i + j) 0 + ((da * db : Nat) : Int)) = o.getD (i + j) 0 + ((da * db : Nat) : Int)) := ⟨x64 (by omega) (by omega)⟩
        have hij : i + j < o.length := by omega
        refine Ev.step (f := fun k => environref02_times.l1 k (dl a) (dl b) (o.set (i + j) (o.getD (i + j) 0 + ((da * db : Nat) : Int))) (i : Int) ((j + 1 : Nat) : Int)) (fun k => ?_) ?_
        · simp only [environref02_times.l1]
          rw [if_pos (by omega), e2.out, if_pos (by omega), if_pos (by omega), if_pos (by omega), if_pos (by omega), if_pos (by omega), ro, ra, rb, e3.out, e4.out, e1.out, Int.toNat_natCast]
        refine ihm (j + 1) _ (by omega) (by rw [List.length_set]; exact hlo) ?_ ?_
        · rw [vI_set _ _ _ hij, hvo, hsb, show o.getD (i + j) 0 + ((da * db : Nat) : Int) - o.getD (i + j) 0 = ((da * db : Nat) : Int) by omega]
          have : (10 : Int) ^ (i + j) = ((10 ^ (i + j) : Nat) : Int) := by simp
          rw [this, ← Int.natCast_mul, ← Int.natCast_add]
          congr 1
          rw [Nat.mul_add, Nat.pow_add, ← Nat.add_assoc]
          congr 1
          rw [Nat.mul_assoc, Nat.mul_assoc]
          congr 1
          rw [← Nat.mul_assoc, Nat.mul_comm (10 ^ j) da, Nat.mul_assoc]
        · intro k
          rw [getD_set _ _ _ _ hij]
          have := hbo k
          by_cases hk : k = i + j
          · rw [if_pos hk]; exact ⟨by omega, by omega, fun h => by omega⟩
          · rw [if_neg hk]; exact ⟨this.1, this.2.1, fun h => this.2.2 (by omega)⟩
    refine Ev.step (f := fun k => environref02_times.l1 k (dl a) (dl b) out (i : Int) 0) (fun k => ?_) ?_
    · simp only [environref02_times.l0]; rw [if_pos (by omega)]
    exact inner (dg b) 0 out (by omega) hl (by rw [hv, Nat.pow_zero, Nat.mod_one, Nat.mul_zero, Nat.add_zero]) (fun k => ⟨(hb2 k).1, by have := (hb2 k).2; omega, fun _ => by have := (hb2 k).2; omega⟩)
theorem times_is' {a b : Nat} (ha : dg a ≤ 50000) (hb : dg b ≤ 50000) : Ev (fun k => environref02_times.f k (dl a) (dl b)) (dl (a * b)) := by
  have h := times_l01 a b ha hb (dg a) 0 (List.replicate (dg a + dg b) 0) (by omega) (by rw [List.length_replicate]) (by rw [vI_zeros, Nat.pow_zero, Nat.mod_one, Nat.zero_mul]; rfl) (fun k => by
    rw [List.getD_eq_getElem?_getD, List.getElem?_replicate]; split <;> simp)
  have hw : Aside0 (wrap64 (((dl a).length : Int) + ((dl b).length : Int)) = ((dg a + dg b : Nat) : Int)) := ⟨by rw [len_dl, len_dl, x64 (by omega) (by omega)]; omega⟩
  refine Ev.congr (fun k => ?_) h
  unfold environref02_times.f
  rw [hw.out, if_pos (by omega), Int.toNat_natCast, if_pos (by omega)]; rfl
theorem divide_l0 (a b : Nat) (hb0 : b ≠ 0) (ha : dg a ≤ 50000) (hb : dg b ≤ 40000) : ∀ (n : Nat) (q : List Int) (R : Nat), n ≤ dg a → q.length + n = dg a → Dg q → a / 10 ^ n = vl q * b + R → R < b →
    Ev (fun k => environref02_divide.l0 k (dl a) (dl b) q (dl R) ((n : Int) - 1)) (dl (a / b), dl (a % b)) := by
  intro n
  induction n with
  | zero =>
    intro q R _ hl hd hq hR
    rw [Nat.pow_zero, Nat.div_one] at hq
    refine Ev.step (f := fun k => (environref02_trim.f k q).bind fun t => some (t, dl R)) (fun k => ?_) ?_
    · simp only [environref02_divide.l0]; rw [if_neg (by omega)]
    have h1 : a / b = vl q := by
      rw [hq, Nat.mul_comm, Nat.mul_add_div (Nat.pos_of_ne_zero hb0), Nat.div_eq_of_lt hR, Nat.add_zero]
    have h2 : a % b = R := by rw [hq, Nat.mul_comm, Nat.mul_add_mod, Nat.mod_eq_of_lt hR]
    rw [h1, h2]
    exact Ev.bind (trim_is (by omega) hd) (Ev.now _)
  | succ n ih =>
    intro q R hn hl hd hq hR
    have hla := len_dl a
    have hdR : dg R ≤ 40000 := Nat.le_trans (dg_mono' (Nat.le_of_lt hR)) hb
    have ra := rd_dl (n := a) (i := n) (by omega)
    have sa := div_succ a n
    generalize hA : a / 10 ^ n = A at *
    have hdA : A % 10 < 10 := Nat.mod_lt _ (by decide)
    rw [sa] at hq
    -- the digit of the quotient
    have inner : ∀ (m d X : Nat), X < (m + 1) * b → A = vl q * 10 * b + (d * b + X) → d + m ≤ 9 → Ev (fun k => environref02_divide.l1 k (dl a) (dl b) q (dl X) (n : Int) (d : Int)) (dl (a / b), dl (a % b)) := by
      intro m
      induction m with
      | zero =>
        intro d X hX hAX hdm
        rw [Nat.zero_add, Nat.one_mul] at hX
        have hdX : dg X ≤ 40000 := Nat.le_trans (dg_mono' (Nat.le_of_lt hX)) hb
        have e1 : Aside0 (wrap64 ((n : Int) - 1) = (n : Int) - 1) := ⟨x64 (by omega) (by omega)⟩
        refine Ev.step (f := fun k => (environref02_compare.f k (dl X) (dl b)).bind fun t522 => if t522 ≥ 0 then ((environref02_minus.f k (dl X) (dl b)).bind fun t523 => (environref02_divide.l1 k (dl a) (dl b) q t523 n (wrap64 ((d : Int) + 1)))) else environref02_divide.l0 k (dl a) (dl b) ((d : Int) :: q) (dl X) ((n : Int) - 1)) (fun k => ?_) ?_
        · simp only [environref02_divide.l1, Option.bind_some]
          have hlen : ([(d : Int)] : List Int).length + q.length < 17592186044416 := by simp; omega
          simp only [if_pos hlen, e1.out]; rfl
        refine Ev.bind (cmp_is' (by rw [len_dl]; omega) (by rw [len_dl]; omega)) ?_
        have hc : ¬ cmp X b ≥ 0 := by unfold cmp; rw [if_neg (by omega), if_pos hX]; decide
        simp only [if_neg hc]
        exact ih ((d : Int) :: q) X (by omega) (by rw [List.length_cons]; omega) (hd.cons (by omega) (by omega)) (by rw [hAX]; simp only [vl, Int.toNat_natCast]; rw [Nat.add_mul, Nat.mul_comm 10 (vl q)]; omega) hX
      | succ m ihm =>
        intro d X hX hAX hdm
        have hdX : dg X ≤ 45000 := by
          have h1 : X < 10 * 10 ^ dg b := Nat.lt_of_lt_of_le hX (Nat.mul_le_mul (by omega) (Nat.le_of_lt (dg_lt b)))
          rw [Nat.mul_comm, ← Nat.pow_succ] at h1
          have := dg_le_iff.2 h1; omega
        by_cases hlt : X < b
        · have := ihm d X (Nat.lt_of_lt_of_le hlt (by rw [Nat.add_mul, Nat.one_mul]; omega)) hAX (by omega)
          exact this
        · have e1 : Aside0 (wrap64 ((d : Int) + 1) = ((d + 1 : Nat) : Int)) := ⟨by rw [x64 (by omega) (by omega)]; omega⟩
          have hge : b ≤ X := by omega
          refine Ev.step (f := fun k => (environref02_compare.f k (dl X) (dl b)).bind fun t522 => if t522 ≥ 0 then ((environref02_minus.f k (dl X) (dl b)).bind fun t523 => (environref02_divide.l1 k (dl a) (dl b) q t523 n ((d + 1 : Nat) : Int))) else (some ([(d : Int)] : List Int)).bind fun y526 => (if y526.length + q.length < 17592186044416 then (environref02_divide.l0 k (dl a) (dl b) (y526 ++ q) (dl X) (wrap64 ((n : Int) - 1))) else (none))) (fun k => ?_) ?_
          · simp only [environref02_divide.l1, e1.out]
          refine Ev.bind (cmp_is' (by rw [len_dl]; omega) (by rw [len_dl]; omega)) ?_
          have hc : cmp X b ≥ 0 := by unfold cmp; split <;> (try split) <;> omega
          simp only [if_pos hc]
          refine Ev.bind (minus_is' (by omega) hge) ?_
          exact ihm (d + 1) (X - b) (by rw [Nat.add_mul, Nat.one_mul] at hX; omega) (by rw [hAX, Nat.add_mul, Nat.one_mul]; omega) (by omega)
    have hX : 10 * R + A % 10 < (9 + 1) * b := by omega
    have hin := inner 9 0 (10 * R + A % 10) hX (by rw [Nat.zero_mul, Nat.zero_add]; have := hq; rw [Nat.mul_assoc, Nat.mul_comm 10 b, ← Nat.mul_assoc]; omega) (by omega)
    have e : ((n + 1 : Nat) : Int) - 1 = (n : Int) := by omega
    rw [e]
    refine Ev.step (f := fun k => (environref02_trim.f k (((A % 10 : Nat) : Int) :: dl R)).bind fun t519 => environref02_divide.l1 k (dl a) (dl b) q t519 (n : Int) 0) (fun k => ?_) ?_
    · simp only [environref02_divide.l0, Option.bind_some]
      rw [if_pos (by omega), if_pos (by omega), if_pos (by omega), if_pos (by rw [len_dl]; simp; omega), ra]; rfl
    have ht := trim_is (l := ((A % 10 : Nat) : Int) :: dl R) (by rw [List.length_cons, len_dl]; omega) ((dg_dl R).cons (by omega) (by omega))
    rw [vl, vl_dl, Int.toNat_natCast, Nat.add_comm] at ht
    exact Ev.bind ht hin
theorem divide_is {a b : Nat} (hb0 : b ≠ 0) (ha : dg a ≤ 50000) (hb : dg b ≤ 40000) : Ev (fun k => environref02_divide.f k (dl a) (dl b)) (dl (a / b), dl (a % b)) := by
  have h := divide_l0 a b hb0 ha hb (dg a) [] 0 (Nat.le_refl _) (by simp) Dg.nil (by rw [Nat.div_eq_of_lt (dg_lt a)]; simp [vl]) (Nat.pos_of_ne_zero hb0)
  rw [dl_zero] at h
  refine Ev.congr (fun k => ?_) h
  unfold environref02_divide.f
  rw [len_dl, x64 (by omega) (by omega)]
def environref02_Mul.f (k : Nat) (a0 : Int) (a1 : Int) (a2_0 : Int) (a2_1 : Int) (a3_0 : Int) (a3_1 : Int) : Option (Int × Int × Int) := (environref02_right.f k a0 a1 a2_0 a2_1 a3_0 a3_1).bind fun t454 => (if t454 = 0 then ((environref02_Of.f k a2_0).bind fun t455 => ((environref02_Of.f k a3_0).bind fun t458 => ((environref02_times.f k t455 t458).bind fun t461 => ((environref02_Rounded.f k a0 a1 ((decide (a2_0 < 0)) != (decide (a3_0 < 0))) t461 (wrap64 (a2_1 + a3_1)) false).bind fun bt464 => (some (bt464.1, bt464.2.1, bt464.2.2)))))) else (some (0, 0, t454)))
def environref02_Div.f (k : Nat) (a0 : Int) (a1 : Int) (a2_0 : Int) (a2_1 : Int) (a3_0 : Int) (a3_1 : Int) : Option (Int × Int × Int) := (environref02_right.f k a0 a1 a2_0 a2_1 a3_0 a3_1).bind fun t519 => (if t519 = 0 then (if a3_0 = 0 then (some (0, 0, 11)) else ((environref02_Of.f k a2_0).bind fun t520 => ((environref02_shift.f t520 40).bind fun t523 => ((environref02_Of.f k a3_0).bind fun t526 => ((environref02_divide.f k t523 t526).bind fun bt529 => ((environref02_Rounded.f k a0 a1 ((decide (a2_0 < 0)) != (decide (a3_0 < 0))) bt529.1 (wrap64 ((wrap64 (a2_1 - a3_1)) - 40)) (decide ((bt529.2.length : Int) > 0))).bind fun bt535 => (some (bt535.1, bt535.2.1, bt535.2.2)))))))) else (some (0, 0, t519)))
def reals_Sub.f (k : Nat) (a0 : Int) (a1 : Int) (a2_0 : Int) (a2_1 : Int) (a3_0 : Int) (a3_1 : Int) : Option (Int × Int × Int) := (reals_check.f k a0 a1 (([(⟨a2_0, a2_1⟩ : S29), (⟨a3_0, a3_1⟩ : S29)] : List (S29)))).bind fun bt579 => (if bt579.2 = 0 then ((reals_Add.f k a0 a1 a2_0 a2_1 (wrap64 (-a3_0)) a3_1).bind fun bt581 => (some (bt581.1, bt581.2.1, bt581.2.2))) else (some (0, 0, bt579.2)))
def reals_Neg.f (k : Nat) (a0 : Int) (a1_0 : Int) (a1_1 : Int) : Option (Int × Int × Int) := (reals_check.f k a0 0 (([(⟨a1_0, a1_1⟩ : S29)] : List (S29)))).bind fun bt689 => (if bt689.2 = 0 then (some (wrap64 (-a1_0), a1_1, 0)) else (some (0, 0, bt689.2)))
def reals_Abs.f (k : Nat) (a0 : Int) (a1_0 : Int) (a1_1 : Int) : Option (Int × Int × Int) := if a1_0 < 0 then ((reals_Neg.f k a0 a1_0 a1_1).bind fun bt696 => (some (bt696.1, bt696.2.1, bt696.2.2))) else ((reals_check.f k a0 0 (([(⟨a1_0, a1_1⟩ : S29)] : List (S29)))).bind fun bt702 => (if bt702.2 = 0 then (some (a1_0, a1_1, 0)) else (some (0, 0, bt702.2))))
/-- the answer of an operation whose numbers are right if ok -/
def opS (s how : Int) (ok : Bool) (r : Int × Int × Int) : Int × Int × Int := if er s = 0 ∧ 0 ≤ how ∧ how ≤ 3 then (if ok = true then r else (0, 0, 11)) else (0, 0, 1)
theorem okB_bd {p n : Nat} {e : Int} (h : okB p n e = true) (hp : p ≤ 18) : n < 1000000000000000000 ∧ dg n ≤ p ∧ -400 ≤ e ∧ e ≤ 418 ∧ Ok p n e := by
  unfold okB at h
  by_cases hz : n = 0
  · rw [if_pos hz, decide_eq_true_eq] at h
    subst hz; subst h
    exact ⟨by decide, by rw [dg_zero]; omega, by decide, by decide, fun _ => rfl, fun h => absurd rfl h, by rw [dg_zero]; omega, by decide, by rw [dg_zero]; omega⟩
  · rw [if_neg hz, decide_eq_true_eq] at h
    have h18 : 10 ^ p ≤ 10 ^ 18 := Nat.pow_le_pow_right (by decide) hp
    have hn := dg_le_iff.1 h.2.1
    exact ⟨by omega, h.2.1, h.2.2.1, by omega, fun h0 => absurd h0 hz, fun _ => h.1, h.2.1, h.2.2.1, h.2.2.2⟩
def I64 (m : Int) : Prop := -9223372036854775808 ≤ m ∧ m ≤ 9223372036854775807
/-- the reference's frame: right, then the operation -/
theorem ref_op {g : Nat → Int → Option (Int × Int × Int)} (s how m e n f : Int) (hm : I64 m) (hn : I64 n) (r : Int × Int × Int)
    (h : er s = 0 → 0 ≤ how → how ≤ 3 → okB (pd s) m.natAbs e = true → okB (pd s) n.natAbs f = true → Ev (fun k => g k 0) r) (h1 : ∀ k t, t ≠ 0 → g k t = some (0, 0, t)) :
    Ev (fun k => (environref02_right.f k s how m e n f).bind (g k)) (opS s how (okB (pd s) m.natAbs e && okB (pd s) n.natAbs f) r) := by
  refine Ev.bind (right_is s how m e n f hm.1 hm.2 hn.1 hn.2) ?_
  unfold rightS opS
  by_cases hc : er s = 0 ∧ 0 ≤ how ∧ how ≤ 3
  · rw [if_pos hc, if_pos hc]
    by_cases ho : (okB (pd s) m.natAbs e && okB (pd s) n.natAbs f) = true
    · rw [if_pos ho, if_pos ho]
      rw [Bool.and_eq_true] at ho
      exact h hc.1 hc.2.1 hc.2.2 ho.1 ho.2
    · rw [if_neg ho, if_neg ho]; exact Ev.congr (fun k => h1 k 11 (by decide)) (Ev.now _)
  · rw [if_neg hc, if_neg hc]; exact Ev.congr (fun k => h1 k 1 (by decide)) (Ev.now _)
/-- the program's frame: check, then the operation -/
theorem prog_op {g : Nat → Int × Int → Option (Int × Int × Int)} (s how : Int) (l : List S29) (hl : ∀ x ∈ l, -9223372036854775808 ≤ x.f0 ∧ x.f0 ≤ 9223372036854775807) (hn : l.length ≤ 1000) (ok : Bool) (hok : (l.all fun x => okB (pd s) x.f0.natAbs x.f1) = ok) (r : Int × Int × Int)
    (h : er s = 0 → 0 ≤ how → how ≤ 3 → ok = true → Ev (fun k => g k ((pd s : Int), 0)) r) (h1 : ∀ k t, t ≠ 0 → g k (0, t) = some (0, 0, t)) :
    Ev (fun k => (reals_check.f k s how l).bind (g k)) (opS s how ok r) := by
  refine Ev.bind (check_is s how l hl hn) ?_
  rw [hok]
  unfold checkS opS
  by_cases hc : er s = 0 ∧ 0 ≤ how ∧ how ≤ 3
  · rw [if_pos hc, if_pos hc]
    by_cases ho : ok = true
    · rw [if_pos ho, if_pos ho]; exact h hc.1 hc.2.1 hc.2.2 ho
    · rw [if_neg ho, if_neg ho]; exact Ev.congr (fun k => h1 k 11 (by decide)) (Ev.now _)
  · rw [if_neg hc, if_neg hc]; exact Ev.congr (fun k => h1 k 1 (by decide)) (Ev.now _)
def neg2 (m n : Int) : Bool := decide (m < 0) != decide (n < 0)
def mulS (s how m e n f : Int) : Int × Int × Int := opS s how (okB (pd s) m.natAbs e && okB (pd s) n.natAbs f) (flat (rnd (pd s) how (neg2 m n) (m.natAbs * n.natAbs) (e + f) false))
theorem mul_lt {a b : Nat} (ha : a < 1000000000000000000) (hb : b < 1000000000000000000) : a * b < 1000000000000000000000000000000000000 := by
  have h1 : a * b ≤ 999999999999999999 * 999999999999999999 := Nat.mul_le_mul (by omega) (by omega)
  have h2 : 999999999999999999 * 999999999999999999 < 1000000000000000000000000000000000000 := by decide
  exact Nat.lt_of_le_of_lt h1 h2
theorem rmul_is (s how m e n f : Int) (hm : I64 m) (hn : I64 n) : Ev (fun k => environref02_Mul.f k s how m e n f) (mulS s how m e n f) := by
  unfold environref02_Mul.f mulS
  refine ref_op s how m e n f hm hn _ ?_ ?_
  · intro hs h0 h3 o1 o2
    have hp := pd_of hs
    have b1 := okB_bd o1 (by omega); have b2 := okB_bd o2 (by omega)
    have hw : Aside0 (wrap64 (e + f) = e + f) := ⟨x64 (by omega) (by omega)⟩
    have hlt := mul_lt b1.1 b2.1
    have hd := dg_small (n := m.natAbs * n.natAbs) (by omega)
    simp only [if_true, hw.out]
    refine Ev.bind (of_is hm.1 hm.2) (Ev.bind (of_is hn.1 hn.2) (Ev.bind (times_is' (by omega) (by omega)) (Ev.bind (rounded_is hs how h0 h3 _ (m.natAbs * n.natAbs) (e + f) false (.inr rfl) (by omega) (by omega) (by omega)) ?_)))
    exact Ev.now _
  · intro k t ht; rw [if_neg ht]
theorem mul_in (k : Nat) (m n e f p how E : Int) (H L H2 L2 P Q : Int) (hm : reals_magnitude.f m = some (H, L)) (hn : reals_magnitude.f n = some (H2, L2)) (ht : reals_wide_times.f H L L2 = some (P, Q)) (hE : wrap64 (e + f) = E) :
    (if (((p, 0) : Int × Int)).2 = 0 then ((reals_magnitude.f m).bind fun bt429 => ((reals_magnitude.f n).bind fun bt431 => ((reals_wide_times.f bt429.1 bt429.2 bt431.2).bind fun bt433 => ((reals_exact_round.f k ((decide (m < 0)) != (decide (n < 0))) bt433.1 bt433.2 (wrap64 (e + f)) false (((p, 0) : Int × Int)).1 how).bind fun bt435 => (some (bt435.1, bt435.2.1, bt435.2.2)))))) else (some (0, 0, (((p, 0) : Int × Int)).2))) = (reals_exact_round.f k (neg2 m n) P Q E false p how).bind fun bt435 => (some (bt435.1, bt435.2.1, bt435.2.2)) := by
  rw [if_pos rfl, hm]; simp only [Option.bind_some]; rw [hn]; simp only [Option.bind_some]; rw [ht]; simp only [Option.bind_some]; rw [hE]; rfl
theorem two_ok (s m e n f : Int) : ([(⟨m, e⟩ : S29), (⟨n, f⟩ : S29)].all fun x => okB (pd s) x.f0.natAbs x.f1) = (okB (pd s) m.natAbs e && okB (pd s) n.natAbs f) := by simp
theorem two_bd {m e n f : Int} (hm : I64 m) (hn : I64 n) : ∀ x ∈ [(⟨m, e⟩ : S29), (⟨n, f⟩ : S29)], -9223372036854775808 ≤ x.f0 ∧ x.f0 ≤ 9223372036854775807 := by
  intro x hx
  simp only [List.mem_cons, List.not_mem_nil, or_false] at hx
  rcases hx with rfl | rfl
  · exact hm
  · exact hn
theorem pmul_is (s how m e n f : Int) (hm : I64 m) (hn : I64 n) : Ev (fun k => reals_Mul.f k s how m e n f) (mulS s how m e n f) := by
  unfold reals_Mul.f mulS
  refine prog_op s how _ (two_bd hm hn) (by simp) _ (two_ok s m e n f) _ ?_ ?_
  · intro hs h0 h3 ho
    rw [Bool.and_eq_true] at ho
    have hp := pd_of hs
    have b1 := okB_bd ho.1 (by omega); have b2 := okB_bd ho.2 (by omega)
    have hlt := mul_lt b1.1 b2.1
    have hs2 := hl_small (n := n.natAbs) (by omega)
    have ht := times_is (n := m.natAbs) (c := n.natAbs) (by omega) (by omega) (by omega)
    rw [← hs2.2] at ht
    have hr := round_is hs how h0 h3 (neg2 m n) (n := m.natAbs * n.natAbs) (by omega) (e + f) (by omega) (by omega) false
    refine Ev.congr (fun k => ?_) (Ev.bind hr (Ev.now (flat _)))
    exact mul_in k m n e f (pd s) how _ _ _ _ _ _ _ (mag_is hm.1 hm.2) (mag_is hn.1 hn.2) ht (x64 (by omega) (by omega))
  · intro k t ht; rw [if_neg ht]
def divS (s how m e n f : Int) : Int × Int × Int := opS s how (okB (pd s) m.natAbs e && okB (pd s) n.natAbs f) (if n = 0 then (0, 0, 11) else flat (rnd (pd s) how (neg2 m n) (m.natAbs * 10 ^ 40 / n.natAbs) (e - f - 40) (decide (m.natAbs * 10 ^ 40 % n.natAbs ≠ 0))))
theorem len_pos (r : Nat) : decide (((dl r).length : Int) > 0) = decide (r ≠ 0) := by
  rw [decide_eq_decide, len_dl]
  by_cases h : r = 0
  · subst h; rw [dg_zero]; simp
  · have := dg_pos h; omega
theorem rdiv_in (k : Nat) (s how m n e f E : Int) (A B C Q R : List Int) (more : Bool) (hm : environref02_Of.f k m = some A) (hsh : environref02_shift.f A 40 = some B) (hn : environref02_Of.f k n = some C) (hd : environref02_divide.f k B C = some (Q, R)) (hz : n ≠ 0) (hE : wrap64 (wrap64 (e - f) - 40) = E) (hR : decide ((R.length : Int) > 0) = more) :
    (if (0 : Int) = 0 then (if n = 0 then (some (0, 0, 11)) else ((environref02_Of.f k m).bind fun t536 => ((environref02_shift.f t536 40).bind fun t539 => ((environref02_Of.f k n).bind fun t542 => ((environref02_divide.f k t539 t542).bind fun bt545 => ((environref02_Rounded.f k s how ((decide (m < 0)) != (decide (n < 0))) bt545.1 (wrap64 ((wrap64 (e - f)) - 40)) (decide ((bt545.2.length : Int) > 0))).bind fun bt551 => (some (bt551.1, bt551.2.1, bt551.2.2)))))))) else (some (0, 0, 0))) = (environref02_Rounded.f k s how (neg2 m n) Q E more).bind fun bt551 => (some (bt551.1, bt551.2.1, bt551.2.2)) := by
  rw [if_pos rfl, if_neg hz, hm]; simp only [Option.bind_some]; rw [hsh]; simp only [Option.bind_some]; rw [hn]; simp only [Option.bind_some]; rw [hd]; simp only [Option.bind_some]; rw [hE, hR]; rfl
theorem rdiv_core {s : Int} (hs : er s = 0) (how : Int) (h0 : 0 ≤ how) (h3 : how ≤ 3) (neg : Bool) (A n : Nat) (hn : n ≠ 0) (hA : A = 0 ∨ n ≤ A) (hd : dg A ≤ 100) (E : Int) (h1 : -15000 ≤ E) (h2 : E ≤ 15000) :
    Ev (fun k => environref02_Rounded.f k s how neg (dl (A / n)) E (decide (A % n ≠ 0))) (flat (rnd (pd s) how neg (A / n) E (decide (A % n ≠ 0)))) := by
  have hdq : dg (A / n) ≤ 100 := Nat.le_trans (dg_mono' (Nat.div_le_self _ _)) hd
  have hnm : A / n ≠ 0 ∨ decide (A % n ≠ 0) = false := by
    rcases hA with h | h
    · right; rw [h, Nat.zero_mod]; rfl
    · left; exact Nat.ne_of_gt (Nat.div_pos h (Nat.pos_of_ne_zero hn))
  exact rounded_is hs how h0 h3 neg (A / n) E _ hnm (by omega) h1 h2
theorem rdiv_is (s how m e n f : Int) (hm : I64 m) (hn : I64 n) : Ev (fun k => environref02_Div.f k s how m e n f) (divS s how m e n f) := by
  unfold environref02_Div.f divS
  refine ref_op s how m e n f hm hn _ ?_ ?_
  · intro hs h0 h3 o1 o2
    have hp := pd_of hs
    have b1 := okB_bd o1 (by omega); have b2 := okB_bd o2 (by omega)
    by_cases hz : n = 0
    · rw [if_pos hz]
      refine Ev.congr (fun k => ?_) (Ev.now _)
      rw [if_pos rfl, if_pos hz]
    · rw [if_neg hz]
      have hnz : n.natAbs ≠ 0 := by omega
      have hsh : environref02_shift.f (dl m.natAbs) 40 = some (dl (m.natAbs * 10 ^ 40)) := shift_is (k := 40) (by omega) (by omega)
      have hA : m.natAbs * 10 ^ 40 = 0 ∨ n.natAbs ≤ m.natAbs * 10 ^ 40 := by
        by_cases h0 : m.natAbs = 0
        · left; rw [h0, Nat.zero_mul]
        · right
          have : 1 * 10 ^ 40 ≤ m.natAbs * 10 ^ 40 := Nat.mul_le_mul_right _ (by omega)
          omega
      have hdm : dg (m.natAbs * 10 ^ 40) ≤ 100 := by
        by_cases h0 : m.natAbs = 0
        · rw [h0, Nat.zero_mul, dg_zero]; omega
        · rw [dg_mul h0]; omega
      generalize m.natAbs * 10 ^ 40 = A at *
      have hw : wrap64 (wrap64 (e - f) - 40) = e - f - 40 := by rw [x64 (n := e - f) (by omega) (by omega)]; exact x64 (by omega) (by omega)
      obtain ⟨K1, hom⟩ := of_is hm.1 hm.2
      obtain ⟨K2, hon⟩ := of_is hn.1 hn.2
      obtain ⟨K3, hdv⟩ := divide_is (a := A) hnz (by omega) (by omega)
      obtain ⟨K4, hrr⟩ := Ev.bind (rdiv_core hs how h0 h3 (neg2 m n) A n.natAbs hnz hA hdm (e - f - 40) (by omega) (by omega)) (Ev.now (flat (rnd (pd s) how (neg2 m n) (A / n.natAbs) (e - f - 40) (decide (A % n.natAbs ≠ 0)))))
      refine ⟨K1 + K2 + K3 + K4, fun k hk => ?_⟩
      exact (rdiv_in k s how m n e f _ _ _ _ _ _ _ (hom k (by omega)) hsh (hon k (by omega)) (hdv k (by omega)) hz hw (len_pos _)).trans (hrr k (by omega))
  · intro k t ht; rw [if_neg ht]
/-- fewer zeros behind the dividend, and what is left is told -/
theorem div_sticky (A n k : Nat) (hn : n ≠ 0) : A * 10 ^ k / n = A / n * 10 ^ k + A % n * 10 ^ k / n ∧ A % n * 10 ^ k / n < 10 ^ k ∧ (decide (A * 10 ^ k % n ≠ 0) || decide (A % n * 10 ^ k / n ≠ 0)) = decide (A % n ≠ 0) := by
  have hpos := Nat.pos_of_ne_zero hn
  have hk := p10 k
  have e : A * 10 ^ k = n * (A / n * 10 ^ k) + A % n * 10 ^ k := by
    rw [← Nat.mul_assoc, ← Nat.add_mul, Nat.div_add_mod]
  have hr := Nat.mod_lt A hpos
  refine ⟨by rw [e, Nat.mul_add_div hpos], ?_, ?_⟩
  · rw [Nat.div_lt_iff_lt_mul hpos, Nat.mul_comm (10 ^ k)]; exact Nat.mul_lt_mul_of_pos_right hr hk
  · have hmod : A * 10 ^ k % n = A % n * 10 ^ k % n := by rw [e, Nat.mul_add_mod]
    rw [hmod]
    by_cases h0 : A % n = 0
    · rw [h0]; simp
    · rw [decide_eq_true h0]
      have hp : 0 < A % n * 10 ^ k := Nat.mul_pos (Nat.pos_of_ne_zero h0) hk
      by_cases h1 : A % n * 10 ^ k % n = 0
      · have h2 : A % n * 10 ^ k / n ≠ 0 := by
          intro h2
          have := Nat.div_add_mod (A % n * 10 ^ k) n
          rw [h1, h2] at this; omega
        rw [decide_eq_true h2, Bool.or_true]
      · rw [decide_eq_true h1, Bool.true_or]
theorem div_same (p : Nat) (hp : p ≤ 18) (how : Int) (neg : Bool) (c n : Nat) (hc : c < 1000000000000000000) (hn : n ≠ 0) (hn2 : n < 1000000000000000000) (e : Int) :
    rnd p how neg (c * 10 ^ 40 / n) (e - 40) (decide (c * 10 ^ 40 % n ≠ 0)) = rnd p how neg (c * 10 ^ (38 - dg c) / n) (e - (38 - dg c : Nat)) (decide (c * 10 ^ (38 - dg c) % n ≠ 0)) := by
  by_cases hz : c = 0
  · subst hz
    rw [Nat.zero_mul, Nat.zero_mul, Nat.zero_div, Nat.zero_mod]
    rw [show decide ((0 : Nat) ≠ 0) = false from rfl, rnd_zero, rnd_zero]
  · have hd := dg_pos hz
    have hd18 : dg c ≤ 18 := dg_le_iff.2 (by omega)
    have hA : 10 ^ 37 ≤ c * 10 ^ (38 - dg c) := by
      have h1 := dg_le hz
      have h2 : 10 ^ (dg c - 1) * 10 ^ (38 - dg c) = 10 ^ 37 := by rw [← Nat.pow_add]; congr 1; omega
      rw [← h2]; exact Nat.mul_le_mul_right _ h1
    have e40 : c * 10 ^ 40 = c * 10 ^ (38 - dg c) * 10 ^ (2 + dg c) := by rw [Nat.mul_assoc, ← Nat.pow_add]; congr 2; omega
    rw [e40]
    generalize c * 10 ^ (38 - dg c) = A at *
    obtain ⟨h1, h2, h3⟩ := div_sticky A n (2 + dg c) hn
    have hq : 10 ^ 19 ≤ A / n := by
      rw [Nat.le_div_iff_mul_le (Nat.pos_of_ne_zero hn)]
      have : 10 ^ 19 * n ≤ 10 ^ 19 * 10 ^ 18 := Nat.mul_le_mul_left _ (by omega)
      omega
    have hdq : 20 ≤ dg (A / n) := by
      refine Nat.lt_of_not_le fun hle => ?_
      have := dg_le_iff.1 hle; omega
    have hst := rnd_sticky p how neg (A / n) (e - (38 - dg c : Nat)) (2 + dg c) (A % n * 10 ^ (2 + dg c) / n) (decide (A * 10 ^ (2 + dg c) % n ≠ 0)) h2 (by unfold dropS; omega) (by intro h0; rw [h0, dg_zero] at hdq; omega)
    rw [h3, ← h1] at hst
    rw [← hst]
    congr 1; omega
theorem div_in (k : Nat) (m n e f p how t H L H2 L2 C D Q0 Q1 R N E : Int) (more : Bool) (hm : reals_magnitude.f m = some (H, L)) (hd : reals_wide_digits.f H L = some t) (hN : wrap64 (38 - t) = N) (hsc : reals_wide_scaled.f k H L N = some (C, D)) (hn : reals_magnitude.f n = some (H2, L2)) (ho : reals_wide_over.f k C D L2 = some (Q0, Q1, R)) (hz : n ≠ 0) (hE : wrap64 (wrap64 (e - N) - f) = E) (hR : (R != 0) = more) :
    (if (((p, 0) : Int × Int)).2 = 0 then (if n = 0 then (some (0, 0, 11)) else ((reals_magnitude.f m).bind fun bt200 => ((reals_wide_digits.f bt200.1 bt200.2).bind fun t203 => ((reals_wide_scaled.f k bt200.1 bt200.2 (wrap64 (38 - t203))).bind fun bt204 => ((reals_magnitude.f n).bind fun bt206 => ((reals_wide_over.f k bt204.1 bt204.2 bt206.2).bind fun bt208 => ((reals_exact_round.f k ((decide (m < 0)) != (decide (n < 0))) bt208.1 bt208.2.1 (wrap64 ((wrap64 (e - (wrap64 (38 - t203)))) - f)) (bt208.2.2 != 0) (((p, 0) : Int × Int)).1 how).bind fun bt212 => (some (bt212.1, bt212.2.1, bt212.2.2))))))))) else (some (0, 0, (((p, 0) : Int × Int)).2))) = (reals_exact_round.f k (neg2 m n) Q0 Q1 E more p how).bind fun bt212 => (some (bt212.1, bt212.2.1, bt212.2.2)) := by
  rw [if_pos rfl, if_neg hz, hm]; simp only [Option.bind_some]; rw [hd]; simp only [Option.bind_some]; rw [hN, hsc]; simp only [Option.bind_some]; rw [hn]; simp only [Option.bind_some]; rw [ho]; simp only [Option.bind_some]; rw [hE, hR]; rfl
theorem pdiv_is (s how m e n f : Int) (hm : I64 m) (hn : I64 n) : Ev (fun k => reals_Div.f k s how m e n f) (divS s how m e n f) := by
  unfold reals_Div.f divS
  refine prog_op s how _ (two_bd hm hn) (by simp) _ (two_ok s m e n f) _ ?_ ?_
  · intro hs h0 h3 ho
    rw [Bool.and_eq_true] at ho
    have hp := pd_of hs
    have b1 := okB_bd ho.1 (by omega); have b2 := okB_bd ho.2 (by omega)
    by_cases hz : n = 0
    · rw [if_pos hz]
      refine Ev.congr (fun k => ?_) (Ev.now _)
      rw [if_pos rfl, if_pos hz]
    · rw [if_neg hz]
      have hnz : n.natAbs ≠ 0 := by omega
      have hd18 : dg m.natAbs ≤ 18 := by omega
      have hlt : m.natAbs * 10 ^ (38 - dg m.natAbs) < 10 ^ 38 := by
        have h1 := dg_lt m.natAbs
        have h2 : 10 ^ dg m.natAbs * 10 ^ (38 - dg m.natAbs) = 10 ^ 38 := by rw [← Nat.pow_add]; congr 1; omega
        rw [← h2]; exact Nat.mul_lt_mul_of_pos_right h1 (p10 _)
      have hs2 := hl_small (n := n.natAbs) (by omega)
      have hN : wrap64 (38 - ((dg m.natAbs : Nat) : Int)) = ((38 - dg m.natAbs : Nat) : Int) := by rw [x64 (by omega) (by omega)]; omega
      obtain ⟨K1, hsc⟩ := scaled_ev (n := m.natAbs) (d := 38 - dg m.natAbs) (by omega) (by omega)
      obtain ⟨K2, hov⟩ := over_ev (n := m.natAbs * 10 ^ (38 - dg m.natAbs)) (c := n.natAbs) (by omega) (by omega) (by omega)
      have hq : m.natAbs * 10 ^ (38 - dg m.natAbs) / n.natAbs < 340282366920938463463374607431768211456 := Nat.lt_of_le_of_lt (Nat.div_le_self _ _) (by omega)
      have hr := round_is hs how h0 h3 (neg2 m n) hq (e - f - (38 - dg m.natAbs : Nat)) (by omega) (by omega) (decide (m.natAbs * 10 ^ (38 - dg m.natAbs) % n.natAbs ≠ 0))
      have hsame := div_same (pd s) (by omega) how (neg2 m n) m.natAbs n.natAbs b1.1 hnz b2.1 (e - f)
      rw [hsame]
      obtain ⟨K3, hr3⟩ := Ev.bind hr (Ev.now (flat (rnd (pd s) how (neg2 m n) (m.natAbs * 10 ^ (38 - dg m.natAbs) / n.natAbs) (e - f - (38 - dg m.natAbs : Nat)) (decide (m.natAbs * 10 ^ (38 - dg m.natAbs) % n.natAbs ≠ 0)))))
      refine ⟨K1 + K2 + K3, fun k hk => ?_⟩
      have ho2 := hov k (by omega)
      rw [← hs2.2] at ho2
      have hmore : (((m.natAbs * 10 ^ (38 - dg m.natAbs) % n.natAbs : Nat) : Int) != 0) = decide (m.natAbs * 10 ^ (38 - dg m.natAbs) % n.natAbs ≠ 0) := by
        rw [Bool.eq_iff_iff, bne_iff_ne, decide_eq_true_eq]; omega
      have hw : wrap64 (wrap64 (e - ((38 - dg m.natAbs : Nat) : Int)) - f) = e - f - ((38 - dg m.natAbs : Nat) : Int) := by
        rw [x64 (n := e - ((38 - dg m.natAbs : Nat) : Int)) (by omega) (by omega), x64 (by omega) (by omega)]; omega
      exact (div_in k m n e f (pd s) how _ _ _ _ _ _ _ _ _ _ _ _ _ (mag_is hm.1 hm.2) (pdig_is (two128 (by omega))) hN (hsc k (by omega)) (mag_is hn.1 hn.2) ho2 hz hw hmore).trans (hr3 k (by omega))
  · intro k t ht; rw [if_neg ht]
/-- the sum of two numbers, in units of the less exponent -/
def addZ (m e n f : Int) : Int := m * 10 ^ (e - min e f).toNat + n * 10 ^ (f - min e f).toNat
def addS (s how m e n f : Int) : Int × Int × Int := opS s how (okB (pd s) m.natAbs e && okB (pd s) n.natAbs f) (flat (rnd (pd s) how (decide (addZ m e n f < 0)) (addZ m e n f).natAbs (min e f) false))
theorem addZ_comm (m e n f : Int) : addZ m e n f = addZ n f m e := by
  unfold addZ; rw [Int.min_comm f e, Int.add_comm]
/-- a number is its sign and its absolute value -/
theorem sgn_abs (m : Int) : sgn (decide (m < 0)) m.natAbs = m := by
  unfold sgn
  by_cases h : m < 0
  · rw [decide_eq_true h, if_pos rfl]; omega
  · rw [decide_eq_false h, if_neg (by decide)]; omega
theorem rnd_neg0 (p : Nat) (how : Int) (b c : Bool) (n : Nat) (e : Int) (h : n ≠ 0 → b = c) : rnd p how b n e false = rnd p how c n e false := by
  by_cases hz : n = 0
  · subst hz; rw [rnd_zero, rnd_zero]
  · rw [h hz]
/-- one of the two is 0 -/
theorem add_zero_is (p : Nat) (how : Int) (n f : Int) (h : Ok p n.natAbs f) : flat (rnd p how (decide (addZ 0 0 n f < 0)) (addZ 0 0 n f).natAbs (min 0 f) false) = (n, f, 0) := by
  have hk : (0 : Int) < 10 ^ (f - min 0 f).toNat := Int.pow_pos (by decide)
  have hZ : addZ 0 0 n f = n * 10 ^ (f - min 0 f).toNat := by unfold addZ; rw [Int.zero_mul, Int.zero_add]
  have hs : decide (addZ 0 0 n f < 0) = decide (n < 0) := by
    rw [hZ, decide_eq_decide]
    constructor
    · intro h; exact Int.lt_of_not_ge fun h0 => by have := Int.mul_nonneg h0 (Int.le_of_lt hk); omega
    · intro h; exact Int.mul_neg_of_neg_of_pos h hk
  have ha : (addZ 0 0 n f).natAbs = n.natAbs * 10 ^ (f - min 0 f).toNat := by
    rw [hZ, Int.natAbs_mul, Int.natAbs_pow]; rfl
  rw [hs, ha]
  have h1 := rnd_scale p how (decide (n < 0)) n.natAbs f (f - min 0 f).toNat
  rw [show f - ((f - min 0 f).toNat : Int) = min 0 f by omega] at h1
  rw [h1, rnd_ok how _ h]
  unfold flat real
  simp only [sgn_abs]
/-- the same signs -/
theorem add_same (neg : Bool) (a b : Nat) (m n : Int) (hm : sgn neg a = m) (hn : sgn neg b = n) (K : Nat) : (m * 10 ^ K + n).natAbs = a * 10 ^ K + b ∧ (a * 10 ^ K + b ≠ 0 → decide (m * 10 ^ K + n < 0) = neg) := by
  have e : ((a * 10 ^ K : Nat) : Int) = (a : Int) * 10 ^ K := by simp
  cases neg
  · have h1 : m = a := by rw [← hm]; rfl
    have h2 : n = b := by rw [← hn]; rfl
    subst h1; subst h2
    rw [← e]; exact ⟨by omega, fun _ => decide_eq_false (by omega)⟩
  · have h1 : m = -(a : Int) := by rw [← hm]; rfl
    have h2 : n = -(b : Int) := by rw [← hn]; rfl
    subst h1; subst h2
    rw [Int.neg_mul, ← e]; exact ⟨by omega, fun h => decide_eq_true (by omega)⟩
theorem add_diff (neg : Bool) (a b : Nat) (m n : Int) (hm : sgn neg a = m) (hn : sgn (!neg) b = n) (K : Nat) :
    (b ≤ a * 10 ^ K → (m * 10 ^ K + n).natAbs = a * 10 ^ K - b ∧ (a * 10 ^ K - b ≠ 0 → decide (m * 10 ^ K + n < 0) = neg)) ∧ (a * 10 ^ K < b → (m * 10 ^ K + n).natAbs = b - a * 10 ^ K ∧ decide (m * 10 ^ K + n < 0) = !neg) := by
  have e : ((a * 10 ^ K : Nat) : Int) = (a : Int) * 10 ^ K := by simp
  cases neg
  · have h1 : m = a := by rw [← hm]; rfl
    have h2 : n = -(b : Int) := by rw [← hn]; rfl
    subst h1; subst h2
    rw [← e]
    exact ⟨fun h => ⟨by omega, fun _ => decide_eq_false (by omega)⟩, fun h => ⟨by omega, decide_eq_true (by omega)⟩⟩
  · have h1 : m = -(a : Int) := by rw [← hm]; rfl
    have h2 : n = (b : Int) := by rw [← hn]; rfl
    subst h1; subst h2
    rw [Int.neg_mul, ← e]
    exact ⟨fun h => ⟨by omega, fun h => decide_eq_true (by omega)⟩, fun h => ⟨by omega, decide_eq_false (by omega)⟩⟩
/-- what sum returns, as a number to be rounded: with the sign neg, the numbers and the part below -/
structure SumIs (p : Nat) (how : Int) (m e n f : Int) (x : Bool × Nat × Int × Bool) : Prop where
  r : rnd p how x.1 x.2.1 x.2.2.1 x.2.2.2 = rnd p how (decide (addZ m e n f < 0)) (addZ m e n f).natAbs (min e f) false
  b : x.2.1 < 340282366920938463463374607431768211456
  l : -1000 ≤ x.2.2.1
  h : x.2.2.1 ≤ 1000
theorem sumEnd_same (xn : Bool) (C0 C1 E M0 M1 R0 R1 : Int) (mo : Bool) (h : reals_wide_plus.f C0 C1 M0 M1 = some (R0, R1)) : sumEnd xn xn C0 C1 E M0 M1 mo = some (xn, R0, R1, E, mo) := by
  unfold sumEnd; rw [if_pos rfl, h]; rfl
theorem sumEnd_less (xn yn : Bool) (hn : xn ≠ yn) (C0 C1 E M0 M1 R0 R1 c : Int) (mo : Bool) (hc : reals_wide_compare.f C0 C1 M0 M1 = some c) (hq : ¬ (0 ≤ c ∧ ¬ (mo = true ∧ C0 = M0 ∧ C1 = M1))) (h : reals_wide_minus.f M0 M1 C0 C1 = some (R0, R1)) : sumEnd xn yn C0 C1 E M0 M1 mo = some (yn, R0, R1, E, mo) := by
  unfold sumEnd; rw [if_neg hn, hc]; simp only [Option.bind_some]; rw [if_neg hq, h]; rfl
theorem sumEnd_ge (xn yn : Bool) (hn : xn ≠ yn) (C0 C1 E M0 M1 R0 R1 c : Int) (hc : reals_wide_compare.f C0 C1 M0 M1 = some c) (hq : 0 ≤ c) (h : reals_wide_minus.f C0 C1 M0 M1 = some (R0, R1)) : sumEnd xn yn C0 C1 E M0 M1 false = some (xn, R0, R1, E, false) := by
  unfold sumEnd; rw [if_neg hn, hc]; simp only [Option.bind_some]; rw [if_pos ⟨hq, fun h => by cases h.1⟩, h]; rfl
theorem sumEnd_more (xn yn : Bool) (hn : xn ≠ yn) (C0 C1 E M0 M1 S0 S1 R0 R1 c : Int) (hc : reals_wide_compare.f C0 C1 M0 M1 = some c) (hq : 0 ≤ c) (hne : ¬ (C0 = M0 ∧ C1 = M1)) (h : reals_wide_minus.f C0 C1 M0 M1 = some (S0, S1)) (h2 : reals_wide_minus.f S0 S1 0 1 = some (R0, R1)) : sumEnd xn yn C0 C1 E M0 M1 true = some (xn, R0, R1, E, true) := by
  unfold sumEnd; rw [if_neg hn, hc]; simp only [Option.bind_some]; rw [if_pos ⟨hq, fun h => hne h.2⟩, h]; simp only [Option.bind_some]; rw [if_pos trivial, h2]; rfl
theorem sumBase_near (XH XL xe YH YL ye C0 C1 : Int) (h : xe - ye ≤ 19) (hs : reals_wide_scaled.f 40 XH XL (xe - ye) = some (C0, C1)) : sumBase XH XL xe YH YL ye = some (C0, C1, ye, YH, YL, false) := by
  unfold sumBase; rw [if_pos h, hs]; rfl
theorem sumBase_far (XH XL xe YH YL ye C0 C1 M0 M1 hf : Int) (mo : Bool) (h : ¬ xe - ye ≤ 19) (hs : reals_wide_scaled.f 40 XH XL 19 = some (C0, C1)) (hk : reals_wide_cut.f YH YL (xe - ye - 19) false = some (M0, M1, hf, mo)) : sumBase XH XL xe YH YL ye = some (C0, C1, xe - 19, M0, M1, mo) := by
  unfold sumBase; rw [if_neg h, hs]; simp only [Option.bind_some]; rw [hk]; rfl
theorem sum_of (xn yn : Bool) (XH XL xe YH YL ye C0 C1 E M0 M1 : Int) (mo : Bool) (r : Bool × Int × Int × Int × Bool) (h0 : 0 ≤ xe - ye) (h1 : xe - ye ≤ 100000) (h2 : -100000 ≤ xe) (h3 : xe ≤ 100000) (hb : sumBase XH XL xe YH YL ye = some (C0, C1, E, M0, M1, mo)) (he : sumEnd xn yn C0 C1 E M0 M1 mo = some r) : reals_sum.f xn XH XL xe false yn YH YL ye false = some r := by
  unfold reals_sum.f; rw [if_pos ⟨⟨rfl, rfl⟩, ⟨h0, h1⟩, h2, h3⟩, hb]; exact he
theorem hl_inj {C M : Nat} (h1 : hiw C = hiw M) (h2 : low C = low M) : C = M := by unfold hiw at h1; unfold low at h2; omega
theorem neq_not {a b : Bool} (h : a ≠ b) : b = !a := by cases a <;> cases b <;> simp_all
theorem sum_is {p : Nat} (hp : p ≤ 18) (how m e n f : Int) (hm : m.natAbs < 1000000000000000000) (hn : n.natAbs < 1000000000000000000) (hm0 : m ≠ 0) (he : e ≤ 418) (hf : -400 ≤ f) (hef : f ≤ e) :
    ∃ x : Bool × Nat × Int × Bool, reals_sum.f (decide (m < 0)) (hiw m.natAbs) (low m.natAbs) e false (decide (n < 0)) (hiw n.natAbs) (low n.natAbs) f false = some (x.1, hiw x.2.1, low x.2.1, x.2.2.1, x.2.2.2) ∧ SumIs p how m e n f x := by
  have hmin : min e f = f := by omega
  obtain ⟨d, hd⟩ : ∃ d : Nat, e = f + d := ⟨(e - f).toNat, by omega⟩
  have hZ : addZ m e n f = m * 10 ^ d + n := by
    unfold addZ; rw [hmin, show (e - f).toNat = d by omega, show (f - f).toNat = 0 by omega, Int.pow_zero, Int.mul_one]
  have sm := sgn_abs m
  have sn := sgn_abs n
  have a0 : m.natAbs ≠ 0 := by omega
  generalize ha : m.natAbs = a at *
  generalize hb : n.natAbs = b at *
  by_cases h19 : d ≤ 19
  · have h10 : a * 10 ^ d < 10 ^ 37 := by
      have h1 : 10 ^ d ≤ 10 ^ 19 := Nat.pow_le_pow_right (by decide) h19
      have h2 : a * 10 ^ d ≤ a * 10 ^ 19 := Nat.mul_le_mul_left _ h1
      omega
    have hbase : sumBase (hiw a) (low a) e (hiw b) (low b) f = some (hiw (a * 10 ^ d), low (a * 10 ^ d), f, hiw b, low b, false) := sumBase_near _ _ _ _ _ _ _ _ (by omega) (by rw [show e - f = (d : Int) by omega]; exact scaled_is (by omega) (by omega) 40 (by omega))
    have fin : ∀ (x : Bool × Nat × Int × Bool), sumEnd (decide (m < 0)) (decide (n < 0)) (hiw (a * 10 ^ d)) (low (a * 10 ^ d)) f (hiw b) (low b) false = some (x.1, hiw x.2.1, low x.2.1, x.2.2.1, x.2.2.2) → x.2.2 = (f, false) → x.2.1 = (m * 10 ^ d + n).natAbs → (x.2.1 ≠ 0 → x.1 = decide (m * 10 ^ d + n < 0)) → x.2.1 < 10 ^ 38 → ∃ x : Bool × Nat × Int × Bool, reals_sum.f (decide (m < 0)) (hiw a) (low a) e false (decide (n < 0)) (hiw b) (low b) f false = some (x.1, hiw x.2.1, low x.2.1, x.2.2.1, x.2.2.2) ∧ SumIs p how m e n f x := by
      rintro ⟨x1, x2, x3, x4⟩ hs hx hx2 hx1 hlt
      simp only [Prod.mk.injEq] at hx
      obtain ⟨rfl, rfl⟩ := hx
      refine ⟨(x1, x2, x3, false), sum_of _ _ _ _ _ _ _ _ _ _ _ _ _ _ _ (by omega) (by omega) (by omega) (by omega) hbase hs, ?_, ?_, ?_, ?_⟩
      · simp only at hx1 hx2 ⊢
        rw [hZ, hmin, ← hx2]; exact rnd_neg0 _ _ _ _ _ _ hx1
      · simp only at hlt ⊢; omega
      · simp only; omega
      · simp only; omega
    by_cases hs : decide (m < 0) = decide (n < 0)
    · have hq := add_same (decide (m < 0)) a b m n sm (hs ▸ sn) d
      rw [← hs] at fin ⊢
      exact fin (decide (m < 0), a * 10 ^ d + b, f, false) (sumEnd_same _ _ _ _ _ _ _ _ _ (plus_is (by omega))) rfl hq.1.symm (fun h => (hq.2 h).symm) (by simp only; omega)
    · have hnot := neq_not hs
      have hq := add_diff (decide (m < 0)) a b m n sm (hnot ▸ sn) d
      have hc := cmp_is (a * 10 ^ d) b
      by_cases hle : b ≤ a * 10 ^ d
      · have hq1 := hq.1 hle
        exact fin (decide (m < 0), a * 10 ^ d - b, f, false) (sumEnd_ge _ _ hs _ _ _ _ _ _ _ _ hc (by split <;> (try split) <;> omega) (minus_is (by omega) hle)) rfl hq1.1.symm (fun h => (hq1.2 h).symm) (by simp only; omega)
      · have hq1 := hq.2 (by omega)
        refine fin (decide (n < 0), b - a * 10 ^ d, f, false) (sumEnd_less _ _ hs _ _ _ _ _ _ _ _ _ hc ?_ (minus_is (by omega) (by omega))) rfl hq1.1.symm (fun _ => by rw [hq1.2]; exact hnot) (by simp only; omega)
        rw [if_neg (by omega), if_pos (by omega)]; rintro ⟨h, _⟩; omega
  · obtain ⟨k, hk⟩ : ∃ k : Nat, d = k + 19 := ⟨d - 19, by omega⟩
    have hk0 : k ≠ 0 := by omega
    have h10 : a * 10 ^ 19 < 10 ^ 37 := by omega
    have hCge : 10 ^ 19 ≤ a * 10 ^ 19 := by omega
    have hkp := p10 k
    have h10k : 10 ≤ 10 ^ k := by
      have : 10 ^ 1 ≤ 10 ^ k := Nat.pow_le_pow_right (by decide) (by omega)
      omega
    have hcut := pcut_is (n := b) (by omega) (d := k) (by omega) false
    have hcg : cutG b k false = (b / 10 ^ k, (cutG b k false).2.1, decide (b % 10 ^ k ≠ 0)) := by unfold cutG; rw [if_neg hk0, Bool.false_or]
    have hM : b / 10 ^ k ≤ b / 10 := Nat.div_le_div_left h10k (by decide)
    have hdm := Nat.div_add_mod b (10 ^ k)
    have hsl := Nat.mod_lt b hkp
    rw [hcg] at hcut
    have hbase : sumBase (hiw a) (low a) e (hiw b) (low b) f = some (hiw (a * 10 ^ 19), low (a * 10 ^ 19), e - 19, hiw (b / 10 ^ k), low (b / 10 ^ k), decide (b % 10 ^ k ≠ 0)) := sumBase_far _ _ _ _ _ _ _ _ _ _ _ _ (by omega) (scaled_is (d := 19) (by omega) (by omega) 40 (by omega)) (by rw [show e - f - 19 = (k : Int) by omega]; exact hcut)
    have hpow : a * 10 ^ d = a * 10 ^ 19 * 10 ^ k := by rw [hk, Nat.pow_add, Nat.mul_assoc, Nat.mul_comm (10 ^ k)]
    generalize hC : a * 10 ^ 19 = C at *
    generalize hMM : b / 10 ^ k = M at *
    generalize hss : b % 10 ^ k = t at *
    have fin : ∀ (x : Bool × Nat × Int × Bool) (s : Nat), sumEnd (decide (m < 0)) (decide (n < 0)) (hiw C) (low C) (e - 19) (hiw M) (low M) (decide (t ≠ 0)) = some (x.1, hiw x.2.1, low x.2.1, x.2.2.1, x.2.2.2) → x.2.2 = (e - 19, decide (s ≠ 0)) → s < 10 ^ k → x.2.1 * 10 ^ k + s = (m * 10 ^ d + n).natAbs → x.1 = decide (m * 10 ^ d + n < 0) → x.2.1 < 10 ^ 38 → 1000000000000000000 ≤ x.2.1 → ∃ x : Bool × Nat × Int × Bool, reals_sum.f (decide (m < 0)) (hiw a) (low a) e false (decide (n < 0)) (hiw b) (low b) f false = some (x.1, hiw x.2.1, low x.2.1, x.2.2.1, x.2.2.2) ∧ SumIs p how m e n f x := by
      rintro ⟨x1, x2, x3, x4⟩ s hs hx hsk hx2 hx1 hlt hbig
      simp only [Prod.mk.injEq] at hx
      obtain ⟨rfl, rfl⟩ := hx
      simp only at hs hx2 hx1 hlt hbig
      refine ⟨(x1, x2, e - 19, decide (s ≠ 0)), sum_of _ _ _ _ _ _ _ _ _ _ _ _ _ _ _ (by omega) (by omega) (by omega) (by omega) hbase hs, ?_, ?_, ?_, ?_⟩
      · simp only
        have hdg : 19 ≤ dg x2 := by
          refine Nat.lt_of_not_le fun hle => ?_
          have := dg_le_iff.1 hle; omega
        have hst := rnd_sticky p how x1 x2 (e - 19) k s false hsk (by unfold dropS; omega) (by omega)
        rw [Bool.false_or] at hst
        rw [← hst, hZ, hmin, hx2, hx1, show e - 19 - (k : Int) = f by omega]
      · simp only; omega
      · simp only; omega
      · simp only; omega
    by_cases hs : decide (m < 0) = decide (n < 0)
    · have hq := add_same (decide (m < 0)) a b m n sm (hs ▸ sn) d
      rw [hpow] at hq
      rw [← hs] at fin ⊢
      have hnz : C * 10 ^ k + b ≠ 0 := by
        have : 1 * 1 ≤ C * 10 ^ k := Nat.mul_le_mul (by omega) (by omega)
        omega
      refine fin (decide (m < 0), C + M, e - 19, decide (t ≠ 0)) t (sumEnd_same _ _ _ _ _ _ _ _ _ (plus_is (by omega))) rfl hsl ?_ (hq.2 hnz).symm (by simp only; omega) (by simp only; omega)
      simp only; rw [hq.1, Nat.add_mul]; rw [Nat.mul_comm] at hdm; omega
    · have hnot := neq_not hs
      have hq := add_diff (decide (m < 0)) a b m n sm (hnot ▸ sn) d
      rw [hpow] at hq
      have hc := cmp_is C M
      have hMC : M < C := by omega
      have hble : b ≤ C * 10 ^ k := by
        have : (M + 1) * 10 ^ k ≤ C * 10 ^ k := Nat.mul_le_mul_right _ hMC
        rw [Nat.add_mul, Nat.one_mul] at this; rw [Nat.mul_comm] at hdm; omega
      have hq1 := hq.1 hble
      have hkey : (C - M) * 10 ^ k = C * 10 ^ k - M * 10 ^ k := Nat.sub_mul _ _ _
      have hMk : M * 10 ^ k ≤ C * 10 ^ k := Nat.mul_le_mul_right _ (by omega)
      have hbig : 1000000000000000000 * 10 ^ k ≤ (C - M - 1) * 10 ^ k := Nat.mul_le_mul_right _ (by omega)
      have hne : C * 10 ^ k - b ≠ 0 := by
        have h1 : (C - M - 1) * 10 ^ k = (C - M) * 10 ^ k - 10 ^ k := by rw [Nat.sub_mul (C - M) 1, Nat.one_mul]
        rw [Nat.mul_comm] at hdm
        have h2 : 1 ≤ 1000000000000000000 * 10 ^ k := Nat.mul_pos (by decide) hkp
        omega
      by_cases ht : t = 0
      · rw [show decide (t ≠ 0) = false from decide_eq_false (fun h => h ht)] at fin
        refine fin (decide (m < 0), C - M, e - 19, false) 0 (sumEnd_ge _ _ hs _ _ _ _ _ _ _ _ hc (by rw [if_neg (by omega), if_neg (by omega)]; decide) (minus_is (by omega) (by omega))) rfl hkp ?_ (hq1.2 hne).symm (by simp only; omega) (by simp only; omega)
        simp only; rw [hq1.1, hkey]; rw [Nat.mul_comm] at hdm; omega
      · rw [show decide (t ≠ 0) = true from decide_eq_true ht] at fin
        have hm1 := minus_is (n := C) (m := M) (by omega) (by omega)
        have hm2 := minus_is (n := C - M) (m := 1) (by omega) (by omega)
        rw [show hiw 1 = 0 from rfl, show low 1 = 1 from rfl] at hm2
        refine fin (decide (m < 0), C - M - 1, e - 19, true) (10 ^ k - t) (sumEnd_more _ _ hs _ _ _ _ _ _ _ _ _ _ hc (by rw [if_neg (by omega), if_neg (by omega)]; decide) (fun h => by have := hl_inj h.1 h.2; omega) hm1 hm2) ?_ (by omega) ?_ (hq1.2 hne).symm (by simp only; omega) (by simp only; omega)
        · simp only [Prod.mk.injEq, true_and]; exact (decide_eq_true (by omega)).symm
        · simp only; rw [hq1.1]
          have h1 : (C - M - 1) * 10 ^ k = (C - M) * 10 ^ k - 10 ^ k := by rw [Nat.sub_mul (C - M) 1, Nat.one_mul]
          rw [h1, hkey]; rw [Nat.mul_comm] at hdm
          have h2 : 1000000000000000000 * 10 ^ k + 10 ^ k ≤ (C - M) * 10 ^ k := by omega
          omega
theorem add_in (k : Nat) (how p m e n f H L H2 L2 X0 X1 E : Int) (xn yn x1 mo : Bool) (h1 : reals_of.f m e = some (xn, H, L, e, false)) (h2 : reals_of.f n f = some (yn, H2, L2, f, false)) (h3 : reals_sum.f xn H L e false yn H2 L2 f false = some (x1, X0, X1, E, mo)) :
    reals_Add.j0 (k + 1) how p m e n f = (reals_exact_round.f k x1 X0 X1 E mo p how).bind fun bt189 => (some (bt189.1, bt189.2.1, bt189.2.2)) := by
  simp only [reals_Add.j0]; rw [h1]; simp only [Option.bind_some]; rw [h2]; simp only [Option.bind_some]; rw [h3]; simp only [Option.bind_some]
theorem padd_j0 {s : Int} (hs : er s = 0) (how : Int) (h0 : 0 ≤ how) (h3 : how ≤ 3) (m e n f : Int) (hm : I64 m) (hn : I64 n) (o1 : okB (pd s) m.natAbs e = true) (o2 : okB (pd s) n.natAbs f = true) (hm0 : m ≠ 0) (hef : f ≤ e) :
    Ev (fun k => reals_Add.j0 k how (pd s) m e n f) (flat (rnd (pd s) how (decide (addZ m e n f < 0)) (addZ m e n f).natAbs (min e f) false)) := by
  have hp := pd_of hs
  have b1 := okB_bd o1 (by omega); have b2 := okB_bd o2 (by omega)
  obtain ⟨⟨x1, x2, E, mo⟩, hsum, hx⟩ := sum_is (p := pd s) (by omega) how m e n f b1.1 b2.1 hm0 b1.2.2.2.1 b2.2.2.1 hef
  have hr := round_is hs how h0 h3 x1 (n := x2) hx.b E (by have := hx.l; simp only at this; omega) (by have := hx.h; simp only at this; omega) mo
  rw [← hx.r]
  exact Ev.step (fun k => add_in k how (pd s) m e n f _ _ _ _ _ _ _ _ _ _ _ (pof_is hm.1 hm.2) (pof_is hn.1 hn.2) hsum) (Ev.bind hr (Ev.now (flat _)))
theorem padd_is (s how m e n f : Int) (hm : I64 m) (hn : I64 n) : Ev (fun k => reals_Add.f k s how m e n f) (addS s how m e n f) := by
  unfold reals_Add.f addS
  refine prog_op s how _ (two_bd hm hn) (by simp) _ (two_ok s m e n f) _ ?_ ?_
  · intro hs h0 h3 ho
    rw [Bool.and_eq_true] at ho
    have hp := pd_of hs
    have b1 := okB_bd ho.1 (by omega); have b2 := okB_bd ho.2 (by omega)
    by_cases hm0 : m = 0
    · subst hm0
      have he : e = 0 := b1.2.2.2.2.z rfl
      subst he
      rw [add_zero_is (pd s) how n f b2.2.2.2.2]
      refine Ev.congr (fun k => ?_) (Ev.now _)
      rw [if_pos rfl, if_pos rfl]
    · by_cases hn0 : n = 0
      · subst hn0
        have hf : f = 0 := b2.2.2.2.2.z rfl
        subst hf
        rw [addZ_comm, Int.min_comm, add_zero_is (pd s) how m e b1.2.2.2.2]
        refine Ev.congr (fun k => ?_) (Ev.now _)
        rw [if_pos rfl, if_neg hm0, if_pos rfl]
      · by_cases hlt : e < f
        · rw [addZ_comm, Int.min_comm]
          refine Ev.congr (fun k => ?_) (padd_j0 hs how h0 h3 n f m e hn hm ho.2 ho.1 hn0 (by omega))
          rw [if_pos rfl, if_neg hm0, if_neg hn0, if_pos hlt]
        · refine Ev.congr (fun k => ?_) (padd_j0 hs how h0 h3 m e n f hm hn ho.1 ho.2 hm0 (by omega))
          rw [if_pos rfl, if_neg hm0, if_neg hn0, if_neg hlt]
  · intro k t ht; rw [if_neg ht]
def subS (s how m e n f : Int) : Int × Int × Int := addS s how m e (-n) f
theorem okB_neg (p : Nat) (n : Int) (e : Int) : okB p (-n).natAbs e = okB p n.natAbs e := by rw [Int.natAbs_neg]
theorem psub_is (s how m e n f : Int) (hm : I64 m) (hn : I64 n) : Ev (fun k => reals_Sub.f k s how m e n f) (subS s how m e n f) := by
  have hS : subS s how m e n f = opS s how (okB (pd s) m.natAbs e && okB (pd s) n.natAbs f) (subS s how m e n f) := by
    unfold subS addS opS
    rw [okB_neg]
    by_cases hc : er s = 0 ∧ 0 ≤ how ∧ how ≤ 3
    · rw [if_pos hc, if_pos hc]
      by_cases ho : (okB (pd s) m.natAbs e && okB (pd s) n.natAbs f) = true
      · rw [if_pos ho, if_pos ho]
      · rw [if_neg ho, if_neg ho]
    · rw [if_neg hc, if_neg hc]
  rw [hS]
  unfold reals_Sub.f
  refine prog_op s how _ (two_bd hm hn) (by simp) _ (two_ok s m e n f) _ ?_ ?_
  · intro hs h0 h3 ho
    rw [Bool.and_eq_true] at ho
    have hp := pd_of hs
    have b2 := okB_bd ho.2 (by omega)
    have hn' : I64 (-n) := ⟨by omega, by omega⟩
    refine Ev.congr (fun k => ?_) (Ev.bind (padd_is s how m e (-n) f hm hn') (Ev.now (addS s how m e (-n) f)))
    rw [if_pos rfl, x64 (by omega) (by omega)]
  · intro k t ht; rw [if_neg ht]
theorem or_add (a j : Nat) : (2 ^ (j + 1) * a) ||| 2 ^ j = 2 ^ (j + 1) * a + 2 ^ j := (Nat.two_pow_add_eq_or_of_lt (Nat.pow_lt_pow_right (by decide) (Nat.lt_succ_self j)) a).symm
def bitN : Nat → Nat | 0 => 0 | j + 1 => 2 ^ j
theorem bitN_half (j : Nat) : ((bitN (j + 1) : Nat) : Int) / 2 = ((bitN j : Nat) : Int) := by
  cases j with
  | zero => rfl
  | succ j => simp only [bitN]; rw [Nat.pow_succ]; omega
theorem mul64_sq {a : Nat} (h : a < 18446744073709551616) : bits_Mul64.f (a : Int) (a : Int) = some (hiw (a * a), low (a * a)) := by
  unfold bits_Mul64.f
  have hu : U64 (a : Int) := ⟨by unfold u64s; omega⟩
  rw [if_pos ⟨hu, hu⟩]
  unfold hiw low u64s
  rw [← Int.natCast_mul]
  rfl
theorem root_in (k : Nat) (r b c H L P Q v : Int) (hb : b > 0) (ho : Go.bits .or .u64 r b = c) (hm : bits_Mul64.f c c = some (P, Q)) (hc : reals_wide_compare.f P Q H L = some v) :
    reals_wide_root.l0 (k + 1) r b H L = if v ≤ 0 then reals_wide_root.l0 k c (b / 2) H L else reals_wide_root.l0 k r (b / 2) H L := by
  simp only [reals_wide_root.l0]; rw [if_pos hb, ho, hm]; simp only [Option.bind_some]; rw [hc]; simp only [Option.bind_some]
theorem root_l0 (x : Nat) : ∀ (j a : Nat), j ≤ 64 → 2 ^ j * a + 2 ^ j ≤ 2 ^ 64 → 2 ^ j * a * (2 ^ j * a) ≤ x → x < (2 ^ j * a + 2 ^ j) * (2 ^ j * a + 2 ^ j) →
    ∃ r : Nat, r * r ≤ x ∧ x < (r + 1) * (r + 1) ∧ r < 2 ^ 64 ∧ Ev (fun k => reals_wide_root.l0 k ((2 ^ j * a : Nat) : Int) ((bitN j : Nat) : Int) (hiw x) (low x)) (r : Int) := by
  intro j
  induction j with
  | zero =>
    intro a _ h1 h2 h3
    rw [Nat.pow_zero, Nat.one_mul] at h1 h2 h3
    refine ⟨a, h2, h3, by omega, ?_⟩
    rw [Nat.pow_zero, Nat.one_mul]
    refine Ev.step (f := fun _ => some (a : Int)) (fun k => ?_) (Ev.now _)
    have hb : ¬ (((bitN 0 : Nat) : Int) > 0) := by decide
    simp only [reals_wide_root.l0]; rw [if_neg hb]
  | succ j ih =>
    intro a hj h1 h2 h3
    have hp : 0 < 2 ^ j := Nat.pow_pos (by decide)
    have e2 : 2 ^ (j + 1) = 2 ^ j * 2 := Nat.pow_succ ..
    have hor : Go.bits .or .u64 ((2 ^ (j + 1) * a : Nat) : Int) ((bitN (j + 1) : Nat) : Int) = ((2 ^ (j + 1) * a + 2 ^ j : Nat) : Int) := by
      rw [bits_or_u64_nat _ _ (by omega) (by simp only [bitN]; omega)]
      simp only [bitN]; rw [or_add]
    have hlt : 2 ^ (j + 1) * a + 2 ^ j < 18446744073709551616 := by omega
    have hm := mul64_sq hlt
    have hb : ((bitN (j + 1) : Nat) : Int) > 0 := by simp only [bitN]; omega
    have ea : 2 ^ (j + 1) * a = 2 ^ j * (2 * a) := by rw [e2, Nat.mul_assoc]
    have eb : 2 ^ (j + 1) * a + 2 ^ j = 2 ^ j * (2 * a + 1) := by rw [ea, Nat.mul_add, Nat.mul_one]
    have hc := cmp_is ((2 ^ (j + 1) * a + 2 ^ j) * (2 ^ (j + 1) * a + 2 ^ j)) x
    by_cases hle : (2 ^ (j + 1) * a + 2 ^ j) * (2 ^ (j + 1) * a + 2 ^ j) ≤ x
    · have hv : (if (2 ^ (j + 1) * a + 2 ^ j) * (2 ^ (j + 1) * a + 2 ^ j) = x then (0 : Int) else if (2 ^ (j + 1) * a + 2 ^ j) * (2 ^ (j + 1) * a + 2 ^ j) < x then -1 else 1) ≤ 0 := by
        split
        · decide
        · rw [if_pos (by omega)]; decide
      obtain ⟨r, r1, r2, r3, r4⟩ := ih (2 * a + 1) (by omega) (by rw [← eb]; omega) (by rw [← eb]; exact hle) (by rw [← eb]; rw [show 2 ^ (j + 1) * a + 2 ^ j + 2 ^ j = 2 ^ (j + 1) * a + 2 ^ (j + 1) by omega]; exact h3)
      refine ⟨r, r1, r2, r3, Ev.step (fun k => ?_) r4⟩
      rw [root_in k _ _ _ _ _ _ _ _ hb hor hm hc, if_pos hv, bitN_half, eb]
    · have hv : ¬ (if (2 ^ (j + 1) * a + 2 ^ j) * (2 ^ (j + 1) * a + 2 ^ j) = x then (0 : Int) else if (2 ^ (j + 1) * a + 2 ^ j) * (2 ^ (j + 1) * a + 2 ^ j) < x then -1 else 1) ≤ 0 := by
        rw [if_neg (by omega), if_neg (by omega)]; decide
      obtain ⟨r, r1, r2, r3, r4⟩ := ih (2 * a) (by omega) (by rw [← ea]; omega) (by rw [← ea]; exact h2) (by rw [← ea]; omega)
      refine ⟨r, r1, r2, r3, Ev.step (fun k => ?_) r4⟩
      rw [root_in k _ _ _ _ _ _ _ _ hb hor hm hc, if_neg hv, bitN_half, ea]
/-- the program's root is the whole part of the root -/
theorem root_is {x : Nat} (hx : x < 10 ^ 38) : ∃ r : Nat, r * r ≤ x ∧ x < (r + 1) * (r + 1) ∧ r < 2 ^ 64 ∧ Ev (fun k => reals_wide_root.f k (hiw x) (low x)) (r : Int) := by
  obtain ⟨r, h1, h2, h3, h4⟩ := root_l0 x 64 0 (by omega) (by simp) (by simp) (by simp; omega)
  exact ⟨r, h1, h2, h3, h4⟩
/-- the whole part of the root -/
def isq : Nat → Nat | 0 => 0 | n + 1 => if (isq n + 1) * (isq n + 1) ≤ n + 1 then isq n + 1 else isq n
theorem isq_is (n : Nat) : isq n * isq n ≤ n ∧ n < (isq n + 1) * (isq n + 1) := by
  induction n with
  | zero => exact ⟨Nat.le_refl _, by decide⟩
  | succ n ih =>
    simp only [isq]
    by_cases h : (isq n + 1) * (isq n + 1) ≤ n + 1
    · rw [if_pos h]
      refine ⟨h, ?_⟩
      have : (isq n + 1 + 1) * (isq n + 1 + 1) = (isq n + 1) * (isq n + 1) + 2 * (isq n + 1) + 1 := by
        rw [Nat.add_mul, Nat.mul_add, Nat.one_mul, Nat.mul_one]; omega
      omega
    · rw [if_neg h]; exact ⟨by omega, by omega⟩
theorem isq_of {n r : Nat} (h1 : r * r ≤ n) (h2 : n < (r + 1) * (r + 1)) : r = isq n := by
  have h := isq_is n
  rcases Nat.lt_trichotomy r (isq n) with hl | he | hg
  · have := Nat.mul_le_mul hl hl
    simp only [Nat.succ_eq_add_one] at this; omega
  · exact he
  · have := Nat.mul_le_mul hg hg
    simp only [Nat.succ_eq_add_one] at this; omega
/-- more digits of a root -/
theorem isq_sticky (A t : Nat) : ∃ s : Nat, isq (A * 10 ^ (2 * t)) = isq A * 10 ^ t + s ∧ s < 10 ^ t ∧ (decide (isq (A * 10 ^ (2 * t)) * isq (A * 10 ^ (2 * t)) ≠ A * 10 ^ (2 * t)) || decide (s ≠ 0)) = decide (isq A * isq A ≠ A) := by
  have hA := isq_is A
  have hB := isq_is (A * 10 ^ (2 * t))
  have hp := p10 t
  have e2 : 10 ^ (2 * t) = 10 ^ t * 10 ^ t := by rw [← Nat.pow_add]; congr 1; omega
  rw [e2] at hB ⊢
  clear e2
  generalize isq A = q at *
  generalize isq (A * (10 ^ t * 10 ^ t)) = r at *
  generalize 10 ^ t = P at *
  have sq : ∀ u : Nat, u * P * (u * P) = u * u * (P * P) := by
    intro u; rw [Nat.mul_assoc, ← Nat.mul_assoc P u P, Nat.mul_comm P u, Nat.mul_assoc u P P, ← Nat.mul_assoc]
  have hlo : q * P ≤ r := by
    refine Nat.le_of_not_lt fun h => ?_
    have h1 := Nat.mul_le_mul h h
    simp only [Nat.succ_eq_add_one] at h1
    rw [sq] at h1
    have h2 := Nat.mul_le_mul_right (P * P) hA.1
    exact absurd (Nat.le_trans h1 h2) (Nat.not_le.2 hB.2)
  have hhi : r < (q + 1) * P := by
    refine Nat.lt_of_not_le fun h => ?_
    have h1 := Nat.mul_le_mul h h
    rw [sq] at h1
    have h2 := Nat.mul_lt_mul_of_pos_right hA.2 (Nat.mul_pos hp hp)
    exact absurd (Nat.le_trans h1 hB.1) (Nat.not_le.2 h2)
  refine ⟨r - q * P, by omega, by rw [Nat.add_mul, Nat.one_mul] at hhi; omega, ?_⟩
  by_cases hx : q * q = A
  · have hr : r = q * P := by
      refine Nat.le_antisymm ?_ hlo
      refine Nat.le_of_not_lt fun h => ?_
      have h1 := Nat.mul_le_mul h h
      simp only [Nat.succ_eq_add_one] at h1
      have h3 : (q * P + 1) * (q * P + 1) = q * P * (q * P) + 2 * (q * P) + 1 := by
        rw [Nat.add_mul, Nat.mul_add, Nat.one_mul, Nat.mul_one]; omega
      rw [h3, sq, hx] at h1
      have h4 := Nat.le_trans h1 hB.1
      omega
    rw [hr, sq, hx]; simp
  · rw [decide_eq_true hx]
    by_cases hs : r - q * P = 0
    · have hr : r = q * P := by omega
      have : r * r ≠ A * (P * P) := by
        rw [hr, sq]; intro h; exact hx (Nat.eq_of_mul_eq_mul_right (Nat.mul_pos hp hp) h)
      rw [decide_eq_true this, Bool.true_or]
    · rw [decide_eq_true hs, Bool.or_true]
/-- the number of zeros that the reference lays behind -/
def zer (e : Int) : Nat := if Int.tmod e 2 = 0 then 60 else 61
def sqrtS (s how m e : Int) : Int × Int × Int := opS s how (okB (pd s) m.natAbs e) (if m < 0 then (0, 0, 11) else flat (rnd (pd s) how false (isq (m.natAbs * 10 ^ zer e)) ((e - zer e) / 2) (decide (isq (m.natAbs * 10 ^ zer e) * isq (m.natAbs * 10 ^ zer e) ≠ m.natAbs * 10 ^ zer e))))
theorem sqrt_same (p : Nat) (hp : p ≤ 18) (how : Int) (c : Nat) (hc : c < 1000000000000000000) (e : Int) (N : Nat) (hN : N = 38 - dg c ∨ N + 1 = 38 - dg c) (hpar : (e - N) % 2 = 0) (hpar2 : (e - zer e) % 2 = 0) :
    rnd p how false (isq (c * 10 ^ zer e)) ((e - zer e) / 2) (decide (isq (c * 10 ^ zer e) * isq (c * 10 ^ zer e) ≠ c * 10 ^ zer e)) = rnd p how false (isq (c * 10 ^ N)) ((e - N) / 2) (decide (isq (c * 10 ^ N) * isq (c * 10 ^ N) ≠ c * 10 ^ N)) := by
  have hz0 : isq 0 = 0 := rfl
  by_cases hz : c = 0
  · subst hz
    rw [Nat.zero_mul, Nat.zero_mul, hz0, show decide ((0 : Nat) * 0 ≠ 0) = false from rfl, rnd_zero, rnd_zero]
  · have hd := dg_pos hz
    have hd18 : dg c ≤ 18 := dg_le_iff.2 (by omega)
    have hzr : zer e = 60 ∨ zer e = 61 := by unfold zer; split <;> simp
    obtain ⟨t, ht⟩ : ∃ t : Nat, zer e = N + 2 * t := ⟨(zer e - N) / 2, by omega⟩
    have hA : 10 ^ 36 ≤ c * 10 ^ N := by
      have h1 := dg_le hz
      have h2 : 10 ^ 36 ≤ 10 ^ (dg c - 1) * 10 ^ N := by rw [← Nat.pow_add]; exact Nat.pow_le_pow_right (by decide) (by omega)
      exact Nat.le_trans h2 (Nat.mul_le_mul_right _ h1)
    have eA : c * 10 ^ zer e = c * 10 ^ N * 10 ^ (2 * t) := by rw [ht, Nat.pow_add, Nat.mul_assoc]
    rw [eA]
    generalize c * 10 ^ N = A at *
    obtain ⟨s, h1, h2, h3⟩ := isq_sticky A t
    have hq : 10 ^ 18 ≤ isq A := by
      refine Nat.le_of_not_lt fun h => ?_
      have := (isq_is A).2
      have h4 : (isq A + 1) * (isq A + 1) ≤ 10 ^ 18 * 10 ^ 18 := Nat.mul_le_mul (by omega) (by omega)
      omega
    have hdq : 19 ≤ dg (isq A) := by
      refine Nat.lt_of_not_le fun hle => ?_
      have := dg_le_iff.1 hle; omega
    have hst := rnd_sticky p how false (isq A) ((e - N) / 2) t s (decide (isq (A * 10 ^ (2 * t)) * isq (A * 10 ^ (2 * t)) ≠ A * 10 ^ (2 * t))) h2 (by unfold dropS; omega) (by omega)
    rw [h3, ← h1] at hst
    rw [← hst]
    congr 1; omega
theorem sqrt_in (k : Nat) (how p N m e H L C D R P Q E : Int) (mo : Bool) (hs : reals_wide_scaled.f k H L N = some (C, D)) (hr : reals_wide_root.f k C D = some R) (hq : reals_square.f R = some (P, Q)) (hE : wrap64 (Int.tdiv (wrap64 (e - N)) 2) = E) (hm : (!(P == C) || (!(Q == D))) = mo) :
    reals_Sqrt.j0 (k + 1) how p N m e H L = (reals_exact_round.f k false 0 R E mo p how).bind fun bt238 => (some (bt238.1, bt238.2.1, bt238.2.2)) := by
  simp only [reals_Sqrt.j0]; rw [hs]; simp only [Option.bind_some]; rw [hr]; simp only [Option.bind_some]; rw [hq]; simp only [Option.bind_some]; rw [hE, hm]
theorem sqrt_f_in (k : Nat) (how p m e H L t N : Int) (hm0 : ¬ m < 0) (hm : reals_magnitude.f m = some (H, L)) (hd : reals_wide_digits.f H L = some t) (hN : wrap64 (38 - t) = N) :
    (if (((p, 0) : Int × Int)).2 = 0 then (if m < 0 then (some (0, 0, 11)) else ((reals_magnitude.f m).bind fun bt229 => ((reals_wide_digits.f bt229.1 bt229.2).bind fun t232 => (if (Int.tmod (wrap64 (e - (wrap64 (38 - t232)))) 2) = 0 then (reals_Sqrt.j0 k how (((p, 0) : Int × Int)).1 (wrap64 (38 - t232)) m e bt229.1 bt229.2) else (reals_Sqrt.j0 k how (((p, 0) : Int × Int)).1 (wrap64 ((wrap64 (38 - t232)) - 1)) m e bt229.1 bt229.2))))) else (some (0, 0, (((p, 0) : Int × Int)).2))) = if (Int.tmod (wrap64 (e - N)) 2) = 0 then (reals_Sqrt.j0 k how p N m e H L) else (reals_Sqrt.j0 k how p (wrap64 (N - 1)) m e H L) := by
  rw [if_pos rfl, if_neg hm0, hm]; simp only [Option.bind_some]; rw [hd]; simp only [Option.bind_some]; rw [hN]
theorem sq_is {r : Nat} (h : r < 18446744073709551616) : reals_square.f (r : Int) = some (hiw (r * r), low (r * r)) := by
  unfold reals_square.f; rw [mul64_sq h]; rfl
theorem psqrt_j0 {s : Int} (hs : er s = 0) (how : Int) (h0 : 0 ≤ how) (h3 : how ≤ 3) (m e : Int) (hm : m.natAbs < 1000000000000000000) (he : -400 ≤ e) (he2 : e ≤ 418) (N : Nat) (hN : N = 38 - dg m.natAbs ∨ N + 1 = 38 - dg m.natAbs) (hpar : (e - N) % 2 = 0) :
    Ev (fun k => reals_Sqrt.j0 k how (pd s) (N : Int) m e (hiw m.natAbs) (low m.natAbs)) (flat (rnd (pd s) how false (isq (m.natAbs * 10 ^ N)) ((e - N) / 2) (decide (isq (m.natAbs * 10 ^ N) * isq (m.natAbs * 10 ^ N) ≠ m.natAbs * 10 ^ N)))) := by
  have hp := pd_of hs
  have hd18 : dg m.natAbs ≤ 18 := dg_le_iff.2 (by omega)
  have hlt : m.natAbs * 10 ^ N < 10 ^ 38 := by
    have h1 := dg_lt m.natAbs
    have h2 : 10 ^ dg m.natAbs * 10 ^ N ≤ 10 ^ 38 := by rw [← Nat.pow_add]; exact Nat.pow_le_pow_right (by decide) (by omega)
    exact Nat.lt_of_lt_of_le (Nat.mul_lt_mul_of_pos_right h1 (p10 _)) h2
  obtain ⟨K1, hsc⟩ := scaled_ev (n := m.natAbs) (d := N) (by omega) (by omega)
  generalize m.natAbs * 10 ^ N = A at *
  obtain ⟨r, r1, r2, r3, K2, hrt⟩ := root_is hlt
  have hrq := isq_of r1 r2
  rw [← hrq]
  have hsq := sq_is (r := r) (by omega)
  have hl := hl_small (n := r) (by omega)
  have hE : wrap64 (Int.tdiv (wrap64 (e - (N : Int))) 2) = (e - N) / 2 := by
    rw [x64 (n := e - (N : Int)) (by omega) (by omega)]
    have : Int.tdiv (e - (N : Int)) 2 = (e - N) / 2 := by
      obtain ⟨q, hq⟩ : ∃ q : Int, e - (N : Int) = 2 * q := ⟨(e - N) / 2, by omega⟩
      rw [hq, Int.mul_tdiv_cancel_left _ (by decide), Int.mul_ediv_cancel_left _ (by decide)]
    rw [this]; exact x64 (by omega) (by omega)
  have hmo : (!(hiw (r * r) == hiw A) || (!(low (r * r) == low A))) = decide (r * r ≠ A) := by
    by_cases h : r * r = A
    · rw [h]; simp
    · rw [decide_eq_true h]
      by_cases h1 : hiw (r * r) = hiw A
      · have h2 : ¬ low (r * r) = low A := fun h2 => h (hl_inj h1 h2)
        rw [beq_eq_false_iff_ne.2 h2]; simp
      · rw [beq_eq_false_iff_ne.2 h1]; simp
  have hr := round_is hs how h0 h3 false (n := r) (by omega) ((e - N) / 2) (by omega) (by omega) (decide (r * r ≠ A))
  rw [hl.1, hl.2] at hr
  obtain ⟨K3, hr3⟩ := Ev.bind hr (Ev.now (flat (rnd (pd s) how false r ((e - N) / 2) (decide (r * r ≠ A)))))
  refine ⟨K1 + K2 + K3 + 1, fun k hk => ?_⟩
  obtain ⟨k, rfl⟩ : ∃ j, k = j + 1 := ⟨k - 1, by omega⟩
  exact (sqrt_in k how (pd s) N m e _ _ _ _ _ _ _ _ _ (hsc k (by omega)) (hrt k (by omega)) hsq hE hmo).trans (hr3 k (by omega))
theorem tmod_two (x : Int) : Int.tmod x 2 = 0 ↔ x % 2 = 0 := by
  constructor
  · intro h; have := Int.mul_tdiv_add_tmod x 2; omega
  · intro h
    obtain ⟨q, hq⟩ : ∃ q : Int, x = 2 * q := ⟨x / 2, by omega⟩
    rw [hq]; exact Int.mul_tmod_right 2 q
theorem psqrt_is (s how m e : Int) (hm : I64 m) : Ev (fun k => reals_Sqrt.f k s how m e) (sqrtS s how m e) := by
  unfold reals_Sqrt.f sqrtS
  refine prog_op s how _ (by intro x hx; simp only [List.mem_cons, List.not_mem_nil, or_false] at hx; subst hx; exact hm) (by simp) _ (by simp) _ ?_ ?_
  · intro hs h0 h3 ho
    have hp := pd_of hs
    have b1 := okB_bd ho (by omega)
    by_cases hm0 : m < 0
    · rw [if_pos hm0]
      refine Ev.congr (fun k => ?_) (Ev.now _)
      rw [if_pos rfl, if_pos hm0]
    · rw [if_neg hm0]
      have hd18 : dg m.natAbs ≤ 18 := dg_le_iff.2 (by omega)
      have hz2 : (e - zer e) % 2 = 0 := by
        unfold zer
        have := tmod_two e
        split
        · rename_i h; have := this.1 h; omega
        · rename_i h; have : ¬ e % 2 = 0 := fun h' => h (this.2 h'); omega
      have hN : wrap64 (38 - ((dg m.natAbs : Nat) : Int)) = ((38 - dg m.natAbs : Nat) : Int) := by rw [x64 (by omega) (by omega)]; omega
      have hin := fun k => sqrt_f_in k how (pd s) m e _ _ _ _ hm0 (mag_is hm.1 hm.2) (pdig_is (two128 (by omega))) hN
      have hw : wrap64 (e - ((38 - dg m.natAbs : Nat) : Int)) = e - ((38 - dg m.natAbs : Nat) : Int) := x64 (by omega) (by omega)
      by_cases hpar : (e - ((38 - dg m.natAbs : Nat) : Int)) % 2 = 0
      · rw [sqrt_same (pd s) (by omega) how m.natAbs b1.1 e (38 - dg m.natAbs) (.inl rfl) hpar hz2]
        refine Ev.congr (fun k => ?_) (psqrt_j0 hs how h0 h3 m e b1.1 b1.2.2.1 b1.2.2.2.1 (38 - dg m.natAbs) (.inl rfl) hpar)
        refine (hin k).trans ?_
        rw [hw, if_pos ((tmod_two _).2 hpar)]
      · rw [sqrt_same (pd s) (by omega) how m.natAbs b1.1 e (38 - dg m.natAbs - 1) (.inr (by omega)) (by omega) hz2]
        refine Ev.congr (fun k => ?_) (psqrt_j0 hs how h0 h3 m e b1.1 b1.2.2.1 b1.2.2.2.1 (38 - dg m.natAbs - 1) (.inr (by omega)) (by omega))
        refine (hin k).trans ?_
        rw [hw, if_neg (fun h => hpar ((tmod_two _).1 h)), x64 (by omega) (by omega), show ((38 - dg m.natAbs : Nat) : Int) - 1 = ((38 - dg m.natAbs - 1 : Nat) : Int) by omega]
  · intro k t ht; rw [if_neg ht]
theorem twenty_dl : ([0, 2] : List Int) = dl 20 := by rw [dl_pos (by decide), dl_pos (by decide), dl_zero]; rfl
theorem next_is {x d : Nat} (hx : dg x ≤ 1000) (hd : d ≤ 10) : Ev (fun k => environref02_next.f k (dl x) (d : Int)) (dl ((x * 20 + d) * d)) := by
  unfold environref02_next.f
  have h20 : dg 20 ≤ 2 := dg_le_iff.2 (by decide)
  have hdd : dg d ≤ 2 := dg_le_iff.2 (by omega)
  have ho := of_is (m := (d : Int)) (by omega) (by omega)
  rw [Int.natAbs_natCast] at ho
  have hx20 : dg (x * 20) ≤ dg x + 2 := by
    rw [dg_le_iff, Nat.pow_add]; have := dg_lt x; omega
  have hsum := dl_len_add (x * 20) d
  rw [twenty_dl]
  refine Ev.bind (times_is' (by omega) (by omega)) (Ev.bind ho (Ev.bind (plus_is' (by omega) (by omega)) (Ev.bind ho (Ev.bind (times_is' (by omega) (by omega)) ?_))))
  exact Ev.now _
theorem sq_add (X d : Nat) : (X * 10 + d) * (X * 10 + d) = 100 * (X * X) + (X * 20 + d) * d := by
  have h1 : X * 10 * (X * 10) = 100 * (X * X) := by rw [Nat.mul_mul_mul_comm, Nat.mul_comm]
  have h2 : d * (X * 10) = 10 * (X * d) := by rw [Nat.mul_comm X 10, Nat.mul_left_comm, Nat.mul_comm d X]
  have h3 : X * 20 * d = 20 * (X * d) := by rw [Nat.mul_comm X 20, Nat.mul_assoc]
  have h4 : X * 10 * d = 10 * (X * d) := by rw [Nat.mul_comm X 10, Nat.mul_assoc]
  rw [Nat.add_mul, Nat.mul_add, Nat.mul_add, Nat.add_mul, h1, h2, h3, h4]; omega
/-- one more digit of a root -/
theorem root_digit {X R T pr d : Nat} (hX : X = isq T) (hR : R + X * X = T) (hp : pr < 100) (h1 : (X * 20 + d) * d ≤ 100 * R + pr) (h2 : d = 9 ∨ 100 * R + pr < (X * 20 + (d + 1)) * (d + 1)) : X * 10 + d = isq (100 * T + pr) ∧ 100 * R + pr - (X * 20 + d) * d + (X * 10 + d) * (X * 10 + d) = 100 * T + pr := by
  have hT := (isq_is T).2
  rw [← hX] at hT
  have e := sq_add X d
  have e1 := sq_add X (d + 1)
  rw [← Nat.add_assoc] at e1
  refine ⟨isq_of (by rw [e]; omega) ?_, by rw [e]; omega⟩
  rcases h2 with h | h
  · subst h
    have e3 : (X * 10 + 9 + 1) * (X * 10 + 9 + 1) = 100 * ((X + 1) * (X + 1)) := by
      have : X * 10 + 9 + 1 = (X + 1) * 10 := by omega
      rw [this, Nat.mul_mul_mul_comm, Nat.mul_comm]
    rw [e3]; omega
  · rw [e1]; omega
theorem dg_up {x y k : Nat} (h : x < 10 ^ dg y * 10 ^ 3) (hk : dg y ≤ k) : dg x ≤ k + 3 := dg_le_iff.2 (Nat.lt_of_lt_of_le h (by rw [← Nat.pow_add]; exact Nat.pow_le_pow_right (by decide) (by omega)))
theorem rroot_l0 (l : List Int) (hd : Dg l) (hlen : l.length ≤ 900) : ∀ (j X R : Nat), 2 * j ≤ l.length → X = isq (vl (l.drop (2 * j))) → R + X * X = vl (l.drop (2 * j)) →
    Ev (fun k => environref02_root.l0 k l (dl X) (dl R) (2 * (j : Int) - 2)) (dl (isq (vl l)), dl (vl l - isq (vl l) * isq (vl l))) := by
  intro j
  obtain ⟨q, hq⟩ : ∃ q : Nat, q = 900 := ⟨_, rfl⟩
  rw [← hq] at hlen
  have bd : ∀ (q T X R : Nat), T < 10 ^ q → R + X * X = T → dg X ≤ q + 1 ∧ dg R ≤ q + 1 := by
    intro q T X R hT h
    have hX : X ≤ T := by
      by_cases hz : X = 0
      · omega
      · have := Nat.le_mul_of_pos_right X (Nat.pos_of_ne_zero hz); omega
    have h9 : T < 10 ^ (q + 1) := Nat.lt_of_lt_of_le hT (Nat.pow_le_pow_right (by decide) (by omega))
    exact ⟨dg_le_iff.2 (by omega), dg_le_iff.2 (by omega)⟩
  have vb : ∀ n : Nat, vl (l.drop n) < 10 ^ q := fun n => Nat.lt_of_lt_of_le (vl_lt (hd.drop n)) (Nat.pow_le_pow_right (by decide) (by rw [List.length_drop]; omega))
  induction j with
  | zero =>
    intro X R _ hX hR
    rw [Nat.mul_zero, List.drop_zero] at hX hR
    refine Ev.step (f := fun _ => some (dl X, dl R)) (fun k => ?_) ?_
    · simp only [environref02_root.l0]; rw [if_neg (by omega)]
    rw [← hX, show vl l - X * X = R by omega]; exact Ev.now _
  | succ j ih =>
    intro X R hj hX hR
    have hb := bd q _ X R (vb _) hR
    have hi0 : 2 * j < l.length := by omega
    have hi1 : 2 * j + 1 < l.length := by omega
    have g0 := hd l[2 * j] (List.getElem_mem hi0)
    have g1 := hd l[2 * j + 1] (List.getElem_mem hi1)
    have r0 : rd l (2 * (j : Int)) = l[2 * j] := by rw [show 2 * (j : Int) = ((2 * j : Nat) : Int) by omega, rd_nat, List.getD_eq_getElem?_getD, List.getElem?_eq_getElem hi0]; rfl
    have r1 : rd l (2 * (j : Int) + 1) = l[2 * j + 1] := by rw [show 2 * (j : Int) + 1 = ((2 * j + 1 : Nat) : Int) by omega, rd_nat, List.getD_eq_getElem?_getD, List.getElem?_eq_getElem hi1]; rfl
    have hdrop : vl (l.drop (2 * j)) = l[2 * j].toNat + 10 * l[2 * j + 1].toNat + 100 * vl (l.drop (2 * (j + 1))) := by
      rw [List.drop_eq_getElem_cons hi0, List.drop_eq_getElem_cons hi1]; simp only [vl]; rw [show 2 * j + 1 + 1 = 2 * (j + 1) by omega]; omega
    generalize hT : vl (l.drop (2 * (j + 1))) = T at *
    obtain ⟨pr, hpr⟩ : ∃ pr, pr = l[2 * j].toNat + 10 * l[2 * j + 1].toNat := ⟨_, rfl⟩
    have hpr100 : pr < 100 := by omega
    rw [← hpr, Nat.add_comm] at hdrop
    have hvb := vb (2 * j)
    have stop : ∀ d : Nat, d ≤ 9 → (X * 20 + d) * d ≤ 100 * R + pr → (d = 9 ∨ 100 * R + pr < (X * 20 + (d + 1)) * (d + 1)) →
        Ev (fun k => (environref02_next.f k (dl X) (d : Int)).bind fun t667 => ((environref02_minus.f k (dl (100 * R + pr)) t667).bind fun t670 => ((environref02_trim.f k ((d : Int) :: dl X)).bind fun t679 => (environref02_root.l0 k l t679 t670 (2 * (j : Int) - 2))))) (dl (isq (vl l)), dl (vl l - isq (vl l) * isq (vl l))) := by
      intro d hd9 h1 h2
      have hs := root_digit hX hR hpr100 h1 h2
      rw [← hdrop] at hs
      have hRb : dg (100 * R + pr) ≤ 1000 := by
        have := dg_lt R
        have h5 : 100 * R + pr < 10 ^ dg R * 10 ^ 3 := by omega
        have h6 := dg_up h5 hb.2
        omega
      have ht := trim_is (l := (d : Int) :: dl X) (by rw [List.length_cons, len_dl]; omega) ((dg_dl X).cons (by omega) (by omega))
      rw [vl, vl_dl, Int.toNat_natCast, Nat.add_comm, Nat.mul_comm 10 X] at ht
      exact Ev.bind (next_is (by omega) (by omega)) (Ev.bind (minus_is' (by omega) h1) (Ev.bind ht (ih (X * 10 + d) _ (by omega) hs.1 hs.2)))
    have hlX : 0 + 1 + (dl X).length < 17592186044416 := by rw [len_dl]; omega
    have hRb : dg (100 * R + pr) ≤ 1000 := by
      have := dg_lt R
      have h5 : 100 * R + pr < 10 ^ dg R * 10 ^ 3 := by omega
      have h6 := dg_up h5 hb.2
      omega
    have loop : ∀ (n d : Nat), d + n = 9 → (X * 20 + d) * d ≤ 100 * R + pr →
        Ev (fun k => environref02_root.l1 k l (dl X) (dl (100 * R + pr)) (2 * (j : Int)) (d : Int)) (dl (isq (vl l)), dl (vl l - isq (vl l) * isq (vl l))) := by
      intro n
      induction n with
      | zero =>
        intro d hd9 h1
        refine Ev.step (fun k => ?_) (stop d (by omega) h1 (Or.inl (by omega)))
        simp only [environref02_root.l1]
        rw [if_neg (by omega), x64 (by omega) (by omega)]
        simp only [Option.bind_some, List.length_cons, List.length_nil, List.cons_append, List.nil_append, if_pos hlX]
      | succ n ihn =>
        intro d hd9 h1
        have hnx := next_is (x := X) (d := d + 1) (by omega) (by omega)
        have hnl : dg ((X * 20 + (d + 1)) * (d + 1)) ≤ 1000 := by
          have := dg_lt X
          have h6 : (X * 20 + (d + 1)) * (d + 1) ≤ (X * 20 + (d + 1)) * 10 := Nat.mul_le_mul_left _ (by omega)
          have h5 : (X * 20 + (d + 1)) * (d + 1) < 10 ^ dg X * 10 ^ 3 := by omega
          have h7 := dg_up h5 hb.1
          omega
        have hc := cmp_is' (a := (X * 20 + (d + 1)) * (d + 1)) (b := 100 * R + pr) (by rw [len_dl]; omega) (by rw [len_dl]; omega)
        refine Ev.step (f := (fun k => (environref02_next.f k (dl X) ((d + 1 : Nat) : Int)).bind fun t648 => ((environref02_compare.f k t648 (dl (100 * R + pr))).bind fun t651 => (if t651 ≤ 0 then environref02_root.l1 k l (dl X) (dl (100 * R + pr)) (2 * (j : Int)) ((d + 1 : Nat) : Int) else (environref02_next.f k (dl X) (d : Int)).bind fun t667 => ((environref02_minus.f k (dl (100 * R + pr)) t667).bind fun t670 => ((environref02_trim.f k ((d : Int) :: dl X)).bind fun t679 => (environref02_root.l0 k l t679 t670 (2 * (j : Int) - 2)))))))) (fun k => ?_) (Ev.bind hnx (Ev.bind hc ?_))
        · simp only [environref02_root.l1]
          rw [if_pos (by omega), x64 (by omega) (by omega), x64 (by omega) (by omega), Int.natCast_add]
          simp only [Option.bind_some, List.length_cons, List.length_nil, List.cons_append, List.nil_append, if_pos hlX]
          rfl
        · by_cases hle : (X * 20 + (d + 1)) * (d + 1) ≤ 100 * R + pr
          · have hcv : cmp ((X * 20 + (d + 1)) * (d + 1)) (100 * R + pr) ≤ 0 := by unfold cmp; repeat' split <;> omega
            simp only [if_pos hcv]; exact ihn (d + 1) (by omega) hle
          · have hcv : ¬ cmp ((X * 20 + (d + 1)) * (d + 1)) (100 * R + pr) ≤ 0 := by unfold cmp; repeat' split <;> omega
            simp only [if_neg hcv]; exact stop d (by omega) h1 (Or.inr (by omega))
    have ht := trim_is (l := l[2 * j] :: l[2 * j + 1] :: dl R) (by simp only [List.length_cons]; rw [len_dl]; omega) (((dg_dl R).cons g1.1 g1.2).cons g0.1 g0.2)
    rw [vl, vl, vl_dl, show l[2 * j].toNat + 10 * (l[2 * j + 1].toNat + 10 * R) = 100 * R + pr by omega] at ht
    have hlR : 0 + 1 + 1 + (dl R).length < 17592186044416 := by rw [len_dl]; omega
    refine Ev.step (f := fun k => (environref02_trim.f k (l[2 * j] :: l[2 * j + 1] :: dl R)).bind fun t645 => environref02_root.l1 k l (dl X) t645 (2 * (j : Int)) ((0 : Nat) : Int)) (fun k => ?_) (Ev.bind ht (loop 9 0 (by omega) (by omega)))
    simp only [environref02_root.l0]
    rw [show 2 * ((j + 1 : Nat) : Int) - 2 = 2 * (j : Int) by omega, x64 (n := 2 * (j : Int) + 1) (by omega) (by omega), if_pos (by omega), if_pos (by omega), if_pos (by omega), if_pos (by omega), if_pos (by omega), r0, r1]
    simp only [Option.bind_some, List.length_cons, List.length_nil, List.cons_append, List.nil_append, if_pos hlR]
    rfl
theorem root_j0 (l : List Int) (hd : Dg l) (hlen : l.length ≤ 900) (he : l.length % 2 = 0) :
    Ev (fun k => environref02_root.j0 k l) (dl (isq (vl l)), dl (vl l - isq (vl l) * isq (vl l))) := by
  have hz : vl (l.drop (2 * (l.length / 2))) = 0 := by rw [List.drop_of_length_le (by omega)]; rfl
  have h := rroot_l0 l hd hlen (l.length / 2) 0 0 (by omega) (by rw [hz]; exact isq_of (by decide) (by decide)) (by rw [hz])
  rw [dl_zero] at h
  refine Ev.step (fun k => ?_) h
  simp only [environref02_root.j0]
  rw [x64 (by omega) (by omega), show ((l.length : Int)) - 2 = 2 * ((l.length / 2 : Nat) : Int) - 2 by omega]
theorem rroot_is {n : Nat} (hn : dg n ≤ 800) : Ev (fun k => environref02_root.f k (dl n)) (dl (isq n), dl (n - isq n * isq n)) := by
  have hl := len_dl n
  by_cases ho : ((dl n).length : Int) % 2 = 1
  · have h := root_j0 (dl n ++ [0]) (by
      intro x hx; rcases List.mem_append.1 hx with h | h
      · exact dg_dl n x h
      · rw [List.mem_singleton.1 h]; omega) (by rw [List.length_append, List.length_singleton]; omega) (by rw [List.length_append, List.length_singleton]; omega)
    rw [show vl (dl n ++ [0]) = n by rw [vl_append, vl_dl]; rfl] at h
    refine Ev.congr (fun k => ?_) h
    unfold environref02_root.f
    rw [if_pos ho]
    simp only [Option.bind_some, List.length_nil, List.nil_append]
    rw [if_pos (by omega), if_pos (by omega)]
  · have h := root_j0 (dl n) (dg_dl n) (by omega) (by omega)
    rw [vl_dl] at h
    refine Ev.congr (fun k => ?_) h
    unfold environref02_root.f
    rw [if_neg ho]
theorem rsqrt_j0 {s : Int} (hs : er s = 0) (how : Int) (h0 : 0 ≤ how) (h3 : how ≤ 3) (m e : Int) (hm : I64 m) (hc : m.natAbs < 1000000000000000000) (he : -400 ≤ e) (he2 : e ≤ 418) (N : Nat) (hN : N ≤ 61) (hpar : (e - N) % 2 = 0) :
    Ev (fun k => environref02_Sqrt.j0 k s how (N : Int) m e) (flat (rnd (pd s) how false (isq (m.natAbs * 10 ^ N)) ((e - N) / 2) (decide (isq (m.natAbs * 10 ^ N) * isq (m.natAbs * 10 ^ N) ≠ m.natAbs * 10 ^ N)))) := by
  have hd18 : dg m.natAbs ≤ 18 := dg_le_iff.2 (by omega)
  have hsh : environref02_shift.f (dl m.natAbs) (N : Int) = some (dl (m.natAbs * 10 ^ N)) := shift_is (k := N) (by omega) (by omega)
  have hdm : dg (m.natAbs * 10 ^ N) ≤ 100 := by
    by_cases h0 : m.natAbs = 0
    · rw [h0, Nat.zero_mul, dg_zero]; omega
    · rw [dg_mul h0]; omega
  generalize m.natAbs * 10 ^ N = A at *
  have hq := isq_is A
  have hqA : isq A ≤ A := by
    by_cases hz : isq A = 0
    · omega
    · have := Nat.le_mul_of_pos_right (isq A) (Nat.pos_of_ne_zero hz); omega
  have hmore : decide (((dl (A - isq A * isq A)).length : Int) > 0) = decide (isq A * isq A ≠ A) := by
    rw [len_dl]
    by_cases h : isq A * isq A = A
    · rw [h, Nat.sub_self, dg_zero, decide_eq_false (by omega), decide_eq_false (by simp)]
    · have := dg_pos (n := A - isq A * isq A) (by omega)
      rw [decide_eq_true (by omega), decide_eq_true h]
  have hnm : isq A ≠ 0 ∨ decide (isq A * isq A ≠ A) = false := by
    by_cases hz : isq A = 0
    · right; rw [hz] at hq ⊢; have : A = 0 := by omega
      rw [this]; rfl
    · exact .inl hz
  have hw : wrap64 (Int.tdiv (wrap64 (e - (N : Int))) 2) = (e - N) / 2 := by
    rw [x64 (n := e - (N : Int)) (by omega) (by omega)]
    have : Int.tdiv (e - (N : Int)) 2 = (e - N) / 2 := by
      have h1 := Int.mul_tdiv_add_tmod (e - (N : Int)) 2
      have h2 := (tmod_two (e - (N : Int))).2 hpar
      omega
    rw [this]; exact x64 (by omega) (by omega)
  have hR := rounded_is hs how h0 h3 false (isq A) ((e - N) / 2) _ hnm (Nat.le_trans (dg_mono' hqA) (by omega)) (by omega) (by omega)
  refine Ev.step (f := fun k => (environref02_Of.f k m).bind fun t685 => ((environref02_shift.f t685 (N : Int)).bind fun t688 => ((environref02_root.f k t688).bind fun bt691 => ((environref02_Rounded.f k s how false bt691.1 ((e - N) / 2) (decide ((bt691.2.length : Int) > 0))).bind fun bt697 => (some (bt697.1, bt697.2.1, bt697.2.2)))))) (fun k => ?_) ?_
  · simp only [environref02_Sqrt.j0]; rw [hw]
  · refine Ev.bind (of_is hm.1 hm.2) ?_
    simp only [hsh, Option.bind_some]
    refine Ev.bind (rroot_is (n := A) (by omega)) ?_
    simp only [hmore]
    exact Ev.bind hR (Ev.now _)
theorem rsqrt_is (s how m e : Int) (hm : I64 m) : Ev (fun k => environref02_Sqrt.f k s how m e) (sqrtS s how m e) := by
  unfold environref02_Sqrt.f sqrtS
  have hok : (okB (pd s) m.natAbs e && okB (pd s) (Int.natAbs 0) 0) = okB (pd s) m.natAbs e := by rw [show okB (pd s) (Int.natAbs 0) 0 = true from rfl, Bool.and_true]
  rw [← hok]
  refine ref_op s how m e 0 0 hm ⟨by decide, by decide⟩ _ ?_ ?_
  · intro hs h0 h3 o1 _
    have hp := pd_of hs
    have b1 := okB_bd o1 (by omega)
    by_cases hm0 : m < 0
    · rw [if_pos hm0]
      refine Ev.congr (fun k => ?_) (Ev.now _)
      rw [if_pos rfl, if_pos hm0]
    · rw [if_neg hm0]
      have t2 := tmod_two e
      by_cases h2 : Int.tmod e 2 = 0
      · have hz : zer e = 60 := by unfold zer; rw [if_pos h2]
        rw [hz]
        refine Ev.congr (fun k => ?_) (rsqrt_j0 hs how h0 h3 m e hm b1.1 b1.2.2.1 b1.2.2.2.1 60 (by omega) (by have := t2.1 h2; omega))
        rw [if_pos rfl, if_neg hm0, if_pos h2]; rfl
      · have hz : zer e = 61 := by unfold zer; rw [if_neg h2]
        rw [hz]
        refine Ev.congr (fun k => ?_) (rsqrt_j0 hs how h0 h3 m e hm b1.1 b1.2.2.1 b1.2.2.2.1 61 (by omega) (by have : ¬ e % 2 = 0 := fun h' => h2 (t2.2 h'); omega))
        rw [if_pos rfl, if_neg hm0, if_neg h2]; rfl
  · intro k t ht; rw [if_neg ht]
def rsum_g (k : Nat) (xn : Bool) (xN : List Int) (xe : Int) (yn : Bool) (yN : List Int) (ye : Int) : Option (Bool × List Int × Int × Bool) :=
  (environref02_shift.f yN (wrap64 (ye - xe))).bind fun b => if xn = yn then (environref02_plus.f k xN b).bind fun c => some (xn, c, xe, false)
    else (environref02_compare.f k xN b).bind fun t => if t ≥ 0 then (environref02_minus.f k xN b).bind fun c => some (xn, c, xe, false) else (environref02_minus.f k b xN).bind fun c => some (yn, c, xe, false)
def environref02_sum.f (k : Nat) (xn : Bool) (xN : List Int) (xe : Int) (yn : Bool) (yN : List Int) (ye : Int) : Option (Bool × List Int × Int × Bool) :=
  if xe > ye then rsum_g k yn yN ye xn xN xe else rsum_g k xn xN xe yn yN ye
def environref02_Add.f (k : Nat) (s how m e n f : Int) : Option (Int × Int × Int) := (environref02_right.f k s how m e n f).bind fun t => if t = 0 then ((environref02_Exactly.f k m e).bind fun x => (environref02_Exactly.f k n f).bind fun y => (environref02_sum.f k x.1 x.2.1 x.2.2.1 y.1 y.2.1 y.2.2.1).bind fun z => (environref02_Rounded.f k s how z.1 z.2.1 z.2.2.1 z.2.2.2).bind fun r => some (r.1, r.2.1, r.2.2)) else some (0, 0, t)
def environref02_Sub.f (k : Nat) (s how m e n f : Int) : Option (Int × Int × Int) := (environref02_right.f k s how m e n f).bind fun t => if t = 0 then (environref02_Add.f k s how m e (wrap64 (-n)) f).bind fun r => some (r.1, r.2.1, r.2.2) else some (0, 0, t)
theorem dg_plus (a b : Nat) : dg (a + b) ≤ dg a + dg b + 1 := by
  rw [dg_le_iff, Nat.pow_succ]
  have h1 := dg_lt a
  have h2 := dg_lt b
  have h3 : 10 ^ dg a ≤ 10 ^ (dg a + dg b) := Nat.pow_le_pow_right (by decide) (by omega)
  have h4 : 10 ^ dg b ≤ 10 ^ (dg a + dg b) := Nat.pow_le_pow_right (by decide) (by omega)
  omega
theorem rsum_lt {m e n f : Int} (hm : m.natAbs < 1000000000000000000) (hn : n.natAbs < 1000000000000000000) (he : -400 ≤ e) (hf : f ≤ 418) (hef : e ≤ f) :
    ∃ neg : Bool, ((addZ m e n f).natAbs ≠ 0 → decide (addZ m e n f < 0) = neg) ∧ dg (addZ m e n f).natAbs ≤ 5000 ∧
    Ev (fun k => rsum_g k (decide (m < 0)) (dl m.natAbs) e (decide (n < 0)) (dl n.natAbs) f) (neg, dl (addZ m e n f).natAbs, e, false) := by
  have hZ : addZ m e n f = n * 10 ^ (f - e).toNat + m := by
    unfold addZ; rw [Int.min_eq_left hef, Int.sub_self, Int.toNat_zero, Int.pow_zero, Int.mul_one, Int.add_comm]
  have hw : wrap64 (f - e) = (((f - e).toNat : Nat) : Int) := by rw [x64 (by omega) (by omega)]; omega
  have hd1 : dg m.natAbs ≤ 18 := dg_le_iff.2 (by omega)
  have hd2 : dg n.natAbs ≤ 18 := dg_le_iff.2 (by omega)
  have hK : (f - e).toNat ≤ 818 := by omega
  have hsh : environref02_shift.f (dl n.natAbs) (((f - e).toNat : Nat) : Int) = some (dl (n.natAbs * 10 ^ (f - e).toNat)) := shift_is (by omega) (by omega)
  rw [hZ]
  generalize (f - e).toNat = K at *
  have hdb : dg (n.natAbs * 10 ^ K) ≤ 1000 := by
    by_cases h0 : n.natAbs = 0
    · rw [h0, Nat.zero_mul, dg_zero]; omega
    · rw [dg_mul h0]; omega
  have hsn := sgn_abs n
  have hsm := sgn_abs m
  unfold rsum_g
  simp only [hw, hsh, Option.bind_some]
  by_cases hs : decide (m < 0) = decide (n < 0)
  · have hz := add_same (decide (n < 0)) n.natAbs m.natAbs n m hsn (by rw [← hs]; exact hsm) K
    have hp := plus_is' (a := m.natAbs) (b := n.natAbs * 10 ^ K) (by omega) (by omega)
    rw [hz.1]
    refine ⟨decide (n < 0), fun h => hz.2 h, ?_, ?_⟩
    · rw [Nat.add_comm]; exact Nat.le_trans (dg_plus m.natAbs (n.natAbs * 10 ^ K)) (by omega)
    · simp only [if_pos hs]
      rw [hs, Nat.add_comm (n.natAbs * 10 ^ K)]
      exact Ev.bind hp (Ev.now _)
  · have hsb : decide (m < 0) = !decide (n < 0) := by cases h1 : decide (m < 0) <;> cases h2 : decide (n < 0) <;> simp_all
    have hz := add_diff (decide (n < 0)) n.natAbs m.natAbs n m hsn (by rw [← hsb]; exact hsm) K
    have hc := cmp_is' (a := m.natAbs) (b := n.natAbs * 10 ^ K) (by rw [len_dl]; omega) (by rw [len_dl]; omega)
    simp only [if_neg hs]
    by_cases hle : n.natAbs * 10 ^ K < m.natAbs
    · have hz := hz.2 hle
      have hcv : cmp m.natAbs (n.natAbs * 10 ^ K) ≥ 0 := by unfold cmp; repeat' split <;> omega
      rw [hz.1]
      refine ⟨decide (m < 0), fun _ => by rw [hz.2, hsb], Nat.le_trans (dg_mono' (Nat.sub_le _ _)) (by omega), Ev.bind hc ?_⟩
      simp only [if_pos hcv]
      exact Ev.bind (minus_is' (by omega) (by omega)) (Ev.now _)
    · have hz := hz.1 (by omega)
      rw [hz.1]
      by_cases heq : m.natAbs = n.natAbs * 10 ^ K
      · have hcv : cmp m.natAbs (n.natAbs * 10 ^ K) ≥ 0 := by unfold cmp; repeat' split <;> omega
        refine ⟨decide (m < 0), fun h => absurd h (by omega), Nat.le_trans (dg_mono' (Nat.sub_le _ _)) (by omega), Ev.bind hc ?_⟩
        simp only [if_pos hcv]
        rw [show n.natAbs * 10 ^ K - m.natAbs = m.natAbs - n.natAbs * 10 ^ K by omega]
        exact Ev.bind (minus_is' (by omega) (by omega)) (Ev.now _)
      · have hcv : ¬ cmp m.natAbs (n.natAbs * 10 ^ K) ≥ 0 := by unfold cmp; repeat' split <;> omega
        refine ⟨decide (n < 0), fun h => hz.2 h, Nat.le_trans (dg_mono' (Nat.sub_le _ _)) (by omega), Ev.bind hc ?_⟩
        simp only [if_neg hcv]
        exact Ev.bind (minus_is' (by omega) (by omega)) (Ev.now _)
theorem rsum_is {m e n f : Int} (hm : m.natAbs < 1000000000000000000) (hn : n.natAbs < 1000000000000000000) (he : -400 ≤ e) (he2 : e ≤ 418) (hf : -400 ≤ f) (hf2 : f ≤ 418) :
    ∃ neg : Bool, ((addZ m e n f).natAbs ≠ 0 → decide (addZ m e n f < 0) = neg) ∧ dg (addZ m e n f).natAbs ≤ 5000 ∧
    Ev (fun k => environref02_sum.f k (decide (m < 0)) (dl m.natAbs) e (decide (n < 0)) (dl n.natAbs) f) (neg, dl (addZ m e n f).natAbs, min e f, false) := by
  unfold environref02_sum.f
  by_cases h : e > f
  · simp only [if_pos h]
    rw [addZ_comm, Int.min_eq_right (by omega)]
    exact rsum_lt hn hm hf he2 (by omega)
  · simp only [if_neg h]
    rw [Int.min_eq_left (by omega)]
    exact rsum_lt hm hn he hf2 (by omega)
theorem radd_is (s how m e n f : Int) (hm : I64 m) (hn : I64 n) : Ev (fun k => environref02_Add.f k s how m e n f) (addS s how m e n f) := by
  unfold environref02_Add.f addS
  refine ref_op s how m e n f hm hn _ ?_ ?_
  · intro hs h0 h3 o1 o2
    have hp := pd_of hs
    have b1 := okB_bd o1 (by omega); have b2 := okB_bd o2 (by omega)
    obtain ⟨neg, hneg, hdg, hev⟩ := rsum_is (m := m) (n := n) b1.1 b2.1 b1.2.2.1 b1.2.2.2.1 b2.2.2.1 b2.2.2.2.1
    simp only [if_true]
    rw [rnd_neg0 (pd s) how (decide (addZ m e n f < 0)) neg _ _ hneg]
    have hmn : -400 ≤ min e f ∧ min e f ≤ 418 := by omega
    exact Ev.bind (exactly_is m e hm.1 hm.2) (Ev.bind (exactly_is n f hn.1 hn.2) (Ev.bind hev (Ev.bind (rounded_is hs how h0 h3 neg _ (min e f) false (.inr rfl) hdg (by omega) (by omega)) (Ev.now _))))
  · intro k t ht; rw [if_neg ht]
theorem rsub_is (s how m e n f : Int) (hm : I64 m) (hn : I64 n) : Ev (fun k => environref02_Sub.f k s how m e n f) (subS s how m e n f) := by
  unfold environref02_Sub.f subS
  have hopp : addS s how m e (-n) f = opS s how (okB (pd s) m.natAbs e && okB (pd s) n.natAbs f) (addS s how m e (-n) f) := by
    unfold addS opS
    rw [okB_neg]
    by_cases hc : er s = 0 ∧ 0 ≤ how ∧ how ≤ 3
    · simp only [if_pos hc]
      by_cases ho : (okB (pd s) m.natAbs e && okB (pd s) n.natAbs f) = true
      · simp only [if_pos ho]
      · simp only [if_neg ho]
    · simp only [if_neg hc]
  rw [hopp]
  refine ref_op s how m e n f hm hn _ ?_ ?_
  · intro hs h0 h3 o1 o2
    have hp := pd_of hs
    have b2 := okB_bd o2 (by omega)
    have hw : wrap64 (-n) = -n := x64 (by omega) (by omega)
    simp only [if_true, hw]
    exact Ev.bind (radd_is s how m e (-n) f hm ⟨by omega, by omega⟩) (Ev.now _)
  · intro k t ht; rw [if_neg ht]
def negS (s m e : Int) : Int × Int × Int := opS s 0 (okB (pd s) m.natAbs e) (-m, e, 0)
def absS (s m e : Int) : Int × Int × Int := opS s 0 (okB (pd s) m.natAbs e) ((m.natAbs : Int), e, 0)
theorem ok_zero (s m e : Int) : (okB (pd s) m.natAbs e && okB (pd s) (Int.natAbs 0) 0) = okB (pd s) m.natAbs e := by rw [show okB (pd s) (Int.natAbs 0) 0 = true from rfl, Bool.and_true]
theorem rneg_is (s m e : Int) (hm : I64 m) : Ev (fun k => environref02_Neg.f k s m e) (negS s m e) := by
  unfold environref02_Neg.f negS
  rw [← ok_zero]
  refine ref_op s 0 m e 0 0 hm ⟨by decide, by decide⟩ _ ?_ ?_
  · intro hs _ _ o1 _
    have hp := pd_of hs
    have b1 := okB_bd o1 (by omega)
    have hw : wrap64 (-m) = -m := x64 (by omega) (by omega)
    simp only [if_true, hw]; exact Ev.now _
  · intro k t ht; rw [if_neg ht]
theorem rabs_is (s m e : Int) (hm : I64 m) : Ev (fun k => environref02_Abs.f k s m e) (absS s m e) := by
  unfold environref02_Abs.f absS
  rw [← ok_zero]
  refine ref_op s 0 m e 0 0 hm ⟨by decide, by decide⟩ _ ?_ ?_
  · intro hs _ _ o1 _
    have hp := pd_of hs
    have b1 := okB_bd o1 (by omega)
    have hw : wrap64 (-m) = -m := x64 (by omega) (by omega)
    simp only [if_true, hw]
    refine Ev.congr (fun k => ?_) (Ev.now _)
    by_cases h : m < 0
    · rw [if_pos h, show (-m : Int) = ((m.natAbs : Nat) : Int) by omega]
    · rw [if_neg h, show (((m.natAbs : Nat) : Int)) = m by omega]
  · intro k t ht; rw [if_neg ht]
theorem pneg_is (s m e : Int) (hm : I64 m) : Ev (fun k => reals_Neg.f k s m e) (negS s m e) := by
  unfold reals_Neg.f negS
  refine prog_op s 0 _ (by intro x hx; simp only [List.mem_cons, List.not_mem_nil, or_false] at hx; subst hx; exact hm) (by simp) _ (by simp) _ ?_ ?_
  · intro hs _ _ o1
    have hp := pd_of hs
    have b1 := okB_bd o1 (by omega)
    have hw : wrap64 (-m) = -m := x64 (by omega) (by omega)
    simp only [if_true, hw]; exact Ev.now _
  · intro k t ht; rw [if_neg ht]
theorem pabs_is (s m e : Int) (hm : I64 m) : Ev (fun k => reals_Abs.f k s m e) (absS s m e) := by
  unfold reals_Abs.f
  by_cases h : m < 0
  · have ha : absS s m e = negS s m e := by unfold absS negS; rw [show (((m.natAbs : Nat) : Int)) = -m by omega]
    simp only [if_pos h, ha]; exact Ev.bind (pneg_is s m e hm) (Ev.now _)
  · simp only [if_neg h]
    unfold absS
    rw [show (((m.natAbs : Nat) : Int)) = m by omega]
    refine prog_op s 0 _ (by intro x hx; simp only [List.mem_cons, List.not_mem_nil, or_false] at hx; subst hx; exact hm) (by simp) _ (by simp) _ ?_ ?_
    · intro hs _ _ _
      simp only [if_true]; exact Ev.now _
    · intro k t ht; rw [if_neg ht]
def c3 (a b : Nat) : Int := if a = b then 0 else if a < b then -1 else 1
theorem Ok.more {p q n : Nat} {e : Int} (h : Ok p n e) (hpq : p ≤ q) : Ok q n e := ⟨h.z, h.t, by have := h.d; omega, h.l, by have := h.h; omega⟩
set_option maxHeartbeats 4000000 in
set_option maxRecDepth 100000 in
theorem awake_walk (h17 : Ret 17 #[.int .i64 0, .int .i64 0, .int .i64 1000, .int .i64 (-3)] (.tuple #[.agg #[.int .i64 1, .int .i64 0], .int .i64 0]))
    (h27 : Ret 27 #[.int .i64 (-1), .int .i64 1, .agg #[.int .i64 1, .int .i64 0], .agg #[.int .i64 3, .int .i64 0]] (.tuple #[.agg #[.int .i64 3333334, .int .i64 (-7)], .int .i64 0]))
    (h21 : Ret 21 #[.int .i64 (-1), .int .i64 0, .agg #[.int .i64 9999999, .int .i64 0], .agg #[.int .i64 5, .int .i64 (-1)]] (.tuple #[.agg #[.int .i64 1, .int .i64 7], .int .i64 0]))
    (h29 : Ret 29 #[.int .i64 0, .int .i64 0, .agg #[.int .i64 2, .int .i64 0]] (.tuple #[.agg #[.int .i64 14142135623731, .int .i64 (-13)], .int .i64 0])) : Ret 11 #[] (.bool true) := by
  intro w
  have hu := Try.underlying29
  have H17 := Aside0.mk h17; have H27 := Aside0.mk h27; have H21 := Aside0.mk h21; have H29 := Aside0.mk h29
  clear h17 h27 h21 h29
  go_enter Try.func11, Try.ntmps11
  go_wp2_with fail
  refine (at_w H17 _).mono ?_
  rintro e1 w1 ⟨rfl, hb⟩
  have X1 := Aside0.mk (blk_new w1 (.cells #[.int .i64 1, .int .i64 0] 29 (0, 0)))
  have HB1 := Aside0.mk (below_alloc hb (.cells #[.int .i64 1, .int .i64 0] 29 (0, 0)))
  clear hb
  go_wp2_with fail
  refine (at_w H27 _).mono ?_
  rintro e1 w2 ⟨rfl, hb⟩
  have X2 := Aside0.mk (blk_alloc (blk_below X1.out hb) (.cells #[.int .i64 3333334, .int .i64 (-7)] 29 (0, 0)))
  have Y2 := Aside0.mk (blk_new w2 (.cells #[.int .i64 3333334, .int .i64 (-7)] 29 (0, 0)))
  have HB2 := Aside0.mk (below_alloc (below_step HB1.out hb) (.cells #[.int .i64 3333334, .int .i64 (-7)] 29 (0, 0)))
  clear hb X1 HB1
  go_wp2_with fail
  refine (at_w H21 _).mono ?_
  rintro e1 w3 ⟨rfl, hb⟩
  have X3 := Aside0.mk (blk_alloc (blk_below X2.out hb) (.cells #[.int .i64 1, .int .i64 7] 29 (0, 0)))
  have Y3 := Aside0.mk (blk_alloc (blk_below Y2.out hb) (.cells #[.int .i64 1, .int .i64 7] 29 (0, 0)))
  have Z3 := Aside0.mk (blk_new w3 (.cells #[.int .i64 1, .int .i64 7] 29 (0, 0)))
  have HB3 := Aside0.mk (below_alloc (below_step HB2.out hb) (.cells #[.int .i64 1, .int .i64 7] 29 (0, 0)))
  clear hb X2 Y2 HB2
  go_wp2_with fail
  refine (at_w H29 _).mono ?_
  rintro e1 w4 ⟨rfl, hb⟩
  have X4 := blk_alloc (blk_below X3.out hb) (.cells #[.int .i64 14142135623731, .int .i64 (-13)] 29 (0, 0))
  have Y4 := blk_alloc (blk_below Y3.out hb) (.cells #[.int .i64 14142135623731, .int .i64 (-13)] 29 (0, 0))
  have Z4 := blk_alloc (blk_below Z3.out hb) (.cells #[.int .i64 14142135623731, .int .i64 (-13)] 29 (0, 0))
  have U4 := blk_new w4 (.cells #[.int .i64 14142135623731, .int .i64 (-13)] 29 (0, 0))
  have HB4 := Aside0.mk (below_alloc (below_step HB3.out hb) (.cells #[.int .i64 14142135623731, .int .i64 (-13)] 29 (0, 0)))
  clear hb X3 Y3 Z3 HB3
  have x0 := (blk_cell X4 0).trans rfl; have x1 := (blk_cell X4 1).trans rfl
  have y0 := (blk_cell Y4 0).trans rfl; have y1 := (blk_cell Y4 1).trans rfl
  have z0 := (blk_cell Z4 0).trans rfl; have z1 := (blk_cell Z4 1).trans rfl
  have u0 := (blk_cell U4 0).trans rfl; have u1 := (blk_cell U4 1).trans rfl
  clear X4 Y4 Z4 U4
  go_wp2
  go_ret
  exact ⟨rfl, HB4.out⟩
set_option maxHeartbeats 8000000 in
set_option maxRecDepth 100000 in
theorem hsub_walk (k : Nat) (s how m e n f p c M E er : Int) (w : World) (hck : reals_check.f k s how [(⟨m, e⟩ : S29), (⟨n, f⟩ : S29)] = some (p, c)) (hc : c ≠ 0 → M = 0 ∧ E = 0 ∧ er = c)
    (h0 : c = 0 → Ret 21 #[.int .i64 s, .int .i64 how, .agg #[.int .i64 m, .int .i64 e], .agg #[.int .i64 (wrap64 (-n)), .int .i64 f]] (.tuple #[.agg #[.int .i64 M, .int .i64 E], .int .i64 er])) :
    Calls Try.prog 23 #[.int .i64 s, .int .i64 how, .agg #[.int .i64 m, .int .i64 e], .agg #[.int .i64 n, .int .i64 f]] w fun en w' => en = .returned (.tuple #[.agg #[.int .i64 M, .int .i64 E], .int .i64 er]) ∧ Below w.heap.size w w' := by
  have hu := Try.underlying29
  have HCK := Aside0.mk hck; have HC := Aside0.mk hc; have H0 := Aside0.mk h0
  clear hck hc h0
  have HX := Aside0.mk (op_new w m e n f)
  go_enter Try.func23, Try.ntmps23
  go_wp2_with fail
  refine (reals_check.calls k s how _ 2 _ p c _ (row2 HX.out.get) (by simp) HCK.out).mono ?_
  rintro e1 w1 ⟨rfl, hb⟩
  have HX1 := Aside0.mk (HX.out.next hb).tail
  clear hb HX
  obtain ⟨⟨x0, x1, y0, y1, z0, z1, f0, f1⟩, _⟩ := op_s HX1.out
  by_cases hc : c = 0
  · have HR := Aside0.mk (H0.out hc)
    subst hc
    go_wp2_with fail
    refine (at_w HR _).mono ?_
    rintro e1 w2 ⟨rfl, hb⟩
    have HX2 := Aside0.mk (HX1.out.next hb)
    clear hb HX1 x0 x1 y0 y1 z0 z1 f0 f1
    obtain ⟨⟨x0, x1, y0, y1, z0, z1, f0, f1⟩, _⟩ := op_s HX2.out
    go_wp2_with fail
    exact bodyPost_ret (results_ct rfl _ _ _ 29 #[.int .i64 M, .int .i64 E] (0, 0) _ rfl (op_end HX2.out).1 Try.underlying29 rfl (by kernel_rfl)) rfl ⟨rfl, (op_end HX2.out).2⟩
  · obtain ⟨rfl, rfl, rfl⟩ := HC.out hc
    have hk : (er == 0) = false := by rw [beq_eq_false_iff_ne]; exact hc
    have hk2 : (er != 0) = true := by rw [bne_iff_ne]; exact hc
    clear hc
    go_wp2_with fail
    exact bodyPost_ret (results_ct rfl _ _ _ 29 #[.int .i64 0, .int .i64 0] (0, 0) _ rfl (op_end HX1.out).1 Try.underlying29 rfl (by kernel_rfl)) rfl ⟨rfl, (op_end HX1.out).2⟩
theorem un_end2 {w w' : World} {m e M E : Int} {X : Value} (h : Bxs w w' [(w.heap.size + 1, #[.int .i64 0, .int .i64 0], 29), (w.heap.size, #[.int .i64 m, .int .i64 e], 29)]) : (((w'.setCell ⟨w.heap.size, 0, none⟩ X).setCell ⟨w.heap.size + 1, 0, none⟩ (.int .i64 M)).setCell ⟨w.heap.size + 1, 1, none⟩ (.int .i64 E)).heap[w.heap.size + 1]? = some (.cells #[.int .i64 M, .int .i64 E] 29 (0, 0)) ∧ Below w.heap.size w (((w'.setCell ⟨w.heap.size, 0, none⟩ X).setCell ⟨w.heap.size + 1, 0, none⟩ (.int .i64 M)).setCell ⟨w.heap.size + 1, 1, none⟩ (.int .i64 E)) :=
  ⟨blk_put (blk_put (blk_far h.get (by dsimp only; omega) _) 0 _ rfl) 1 _ rfl, below_set (below_set (below_set h.b (Nat.le_refl _)) (by omega)) (by omega)⟩
set_option maxHeartbeats 8000000 in
set_option maxRecDepth 100000 in
theorem hneg_walk (k : Nat) (s m e p c M E er : Int) (w : World) (hck : reals_check.f k s 0 [(⟨m, e⟩ : S29)] = some (p, c)) (hc : c ≠ 0 → M = 0 ∧ E = 0 ∧ er = c) (h0 : c = 0 → M = wrap64 (-m) ∧ E = e ∧ er = 0) :
    Calls Try.prog 31 #[.int .i64 s, .agg #[.int .i64 m, .int .i64 e]] w fun en w' => en = .returned (.tuple #[.agg #[.int .i64 M, .int .i64 E], .int .i64 er]) ∧ Below w.heap.size w w' := by
  have hu := Try.underlying29
  have HCK := Aside0.mk hck; have HC := Aside0.mk hc; have H0 := Aside0.mk h0
  clear hck hc h0
  have HX := Aside0.mk (un_new w m e)
  go_enter Try.func31, Try.ntmps31
  go_wp2_with fail
  refine (reals_check.calls k s 0 _ 1 _ p c _ (row1 HX.out.get) (by simp) HCK.out).mono ?_
  rintro e1 w1 ⟨rfl, hb⟩
  have HX1 := Aside0.mk (HX.out.next hb).tail
  clear hb HX
  obtain ⟨x0, x1, z0, z1, f0, f1⟩ := un_cells HX1.out
  obtain ⟨f2, f3⟩ := f2 HX1.out.tail.get
  by_cases hc : c = 0
  · obtain ⟨rfl, rfl, rfl⟩ := H0.out hc
    subst hc
    go_wp2_with fail
    exact bodyPost_ret (results_ct rfl _ _ _ 29 #[.int .i64 (wrap64 (-m)), .int .i64 E] (0, 0) _ rfl (un_end2 HX1.out).1 Try.underlying29 rfl (by kernel_rfl)) rfl ⟨rfl, (un_end2 HX1.out).2⟩
  · obtain ⟨rfl, rfl, rfl⟩ := HC.out hc
    have hk : (er == 0) = false := by rw [beq_eq_false_iff_ne]; exact hc
    have hk2 : (er != 0) = true := by rw [bne_iff_ne]; exact hc
    clear hc
    go_wp2_with fail
    exact bodyPost_ret (results_ct rfl _ _ _ 29 #[.int .i64 0, .int .i64 0] (0, 0) _ rfl (un_end HX1.out).1 Try.underlying29 rfl (by kernel_rfl)) rfl ⟨rfl, (un_end HX1.out).2⟩
theorem un_new1 (w : World) (m e : Int) : Bxs w ((w.alloc (.cells #[.int .i64 m, .int .i64 e] 29)).alloc (.cells #[.int .i64 0, .int .i64 0] 29)) [(w.heap.size + 1, #[.int .i64 0, .int .i64 0], 29), (w.heap.size, #[.int .i64 m, .int .i64 e], 29)] := by
  have h := ((bxs_nil w).push #[.int .i64 m, .int .i64 e] 29).push #[.int .i64 0, .int .i64 0] 29
  simpa using h
set_option maxHeartbeats 8000000 in
set_option maxRecDepth 100000 in
theorem habs_walk (k : Nat) (s m e p c M E er : Int) (w : World) (hn : m < 0 → Ret 31 #[.int .i64 s, .agg #[.int .i64 m, .int .i64 e]] (.tuple #[.agg #[.int .i64 M, .int .i64 E], .int .i64 er])) (hck : ¬ m < 0 → reals_check.f k s 0 [(⟨m, e⟩ : S29)] = some (p, c)) (hc : ¬ m < 0 → c ≠ 0 → M = 0 ∧ E = 0 ∧ er = c) (h0 : ¬ m < 0 → c = 0 → M = m ∧ E = e ∧ er = 0) :
    Calls Try.prog 33 #[.int .i64 s, .agg #[.int .i64 m, .int .i64 e]] w fun en w' => en = .returned (.tuple #[.agg #[.int .i64 M, .int .i64 E], .int .i64 er]) ∧ Below w.heap.size w w' := by
  have hu := Try.underlying29
  by_cases hm : m < 0
  · have HR := Aside0.mk (hn hm)
    have hd : decide (m < 0) = true := decide_eq_true hm
    clear hn hck hc h0
    have HX := Aside0.mk (un_new1 w m e)
    go_enter Try.func33, Try.ntmps33
    go_wp2_with fail
    refine (at_w HR _).mono ?_
    rintro e1 w1 ⟨rfl, hb⟩
    have HX1 := Aside0.mk (HX.out.next hb)
    clear hb HX
    obtain ⟨x0, x1, z0, z1, f0, f1⟩ := un_cells HX1.out
    go_wp2_with fail
    exact bodyPost_ret (results_ct rfl _ _ _ 29 #[.int .i64 M, .int .i64 E] (0, 0) _ rfl (un_end HX1.out).1 Try.underlying29 rfl (by kernel_rfl)) rfl ⟨rfl, (un_end HX1.out).2⟩
  · have HCK := Aside0.mk (hck hm); have HC := Aside0.mk (hc hm); have H0 := Aside0.mk (h0 hm)
    have hd : decide (m < 0) = false := decide_eq_false hm
    have hm2 : 0 ≤ m := by omega
    clear hn hck hc h0 hm
    have HX := Aside0.mk (un_new w m e)
    go_enter Try.func33, Try.ntmps33
    go_wp2_with fail
    refine (reals_check.calls k s 0 _ 1 _ p c _ (row1 HX.out.get) (by simp) HCK.out).mono ?_
    rintro e1 w1 ⟨rfl, hb⟩
    have HX1 := Aside0.mk (HX.out.next hb).tail
    clear hb HX
    obtain ⟨x0, x1, z0, z1, f0, f1⟩ := un_cells HX1.out
    by_cases hc : c = 0
    · obtain ⟨rfl, rfl, rfl⟩ := H0.out hc
      subst hc
      go_wp2_with fail
      exact bodyPost_ret (results_ct rfl _ _ _ 29 #[.int .i64 M, .int .i64 E] (0, 0) _ rfl (un_end HX1.out).1 Try.underlying29 rfl (by kernel_rfl)) rfl ⟨rfl, (un_end HX1.out).2⟩
    · obtain ⟨rfl, rfl, rfl⟩ := HC.out hc
      have hk : (er == 0) = false := by rw [beq_eq_false_iff_ne]; exact hc
      have hk2 : (er != 0) = true := by rw [bne_iff_ne]; exact hc
      clear hc
      go_wp2_with fail
      exact bodyPost_ret (results_ct rfl _ _ _ 29 #[.int .i64 0, .int .i64 0] (0, 0) _ rfl (un_end HX1.out).1 Try.underlying29 rfl (by kernel_rfl)) rfl ⟨rfl, (un_end HX1.out).2⟩
theorem reals_Sub.calls (k : Nat) (s how m e n f r1 r2 r3 : Int) (w : World) (h : reals_Sub.f k s how m e n f = some (r1, r2, r3)) :
    Calls Try.prog 23 #[.int .i64 s, .int .i64 how, .agg #[.int .i64 m, .int .i64 e], .agg #[.int .i64 n, .int .i64 f]] w fun e w' => e = .returned (.tuple #[.agg #[.int .i64 r1, .int .i64 r2], .int .i64 r3]) ∧ Below w.heap.size w w' := by
  unfold reals_Sub.f at h
  obtain ⟨⟨p, c⟩, hck, h⟩ := Option.bind_eq_some_iff.mp h
  dsimp only at h
  by_cases hc : c = 0
  · rw [if_pos hc] at h
    obtain ⟨⟨M, E, er⟩, g, h⟩ := Option.bind_eq_some_iff.mp h
    simp only [Option.some.injEq, Prod.mk.injEq] at h
    obtain ⟨rfl, rfl, rfl⟩ := h
    exact hsub_walk k s how m e n f p c _ _ _ w hck (fun h => absurd hc h) (fun _ => ret_b fun w => reals_Add.calls k s how m e _ f _ _ _ w g)
  · rw [if_neg hc] at h
    simp only [Option.some.injEq, Prod.mk.injEq] at h
    obtain ⟨rfl, rfl, rfl⟩ := h
    exact hsub_walk k s how m e n f p c 0 0 c w hck (fun _ => ⟨rfl, rfl, rfl⟩) (fun h => absurd h hc)
theorem reals_Neg.calls (k : Nat) (s m e r1 r2 r3 : Int) (w : World) (h : reals_Neg.f k s m e = some (r1, r2, r3)) :
    Calls Try.prog 31 #[.int .i64 s, .agg #[.int .i64 m, .int .i64 e]] w fun e w' => e = .returned (.tuple #[.agg #[.int .i64 r1, .int .i64 r2], .int .i64 r3]) ∧ Below w.heap.size w w' := by
  unfold reals_Neg.f at h
  obtain ⟨⟨p, c⟩, hck, h⟩ := Option.bind_eq_some_iff.mp h
  dsimp only at h
  by_cases hc : c = 0
  · rw [if_pos hc] at h
    simp only [Option.some.injEq, Prod.mk.injEq] at h
    obtain ⟨rfl, rfl, rfl⟩ := h
    exact hneg_walk k s m e p c _ _ _ w hck (fun h => absurd hc h) (fun _ => ⟨rfl, rfl, rfl⟩)
  · rw [if_neg hc] at h
    simp only [Option.some.injEq, Prod.mk.injEq] at h
    obtain ⟨rfl, rfl, rfl⟩ := h
    exact hneg_walk k s m e p c 0 0 c w hck (fun _ => ⟨rfl, rfl, rfl⟩) (fun h => absurd h hc)
theorem reals_Abs.calls (k : Nat) (s m e r1 r2 r3 : Int) (w : World) (h : reals_Abs.f k s m e = some (r1, r2, r3)) :
    Calls Try.prog 33 #[.int .i64 s, .agg #[.int .i64 m, .int .i64 e]] w fun e w' => e = .returned (.tuple #[.agg #[.int .i64 r1, .int .i64 r2], .int .i64 r3]) ∧ Below w.heap.size w w' := by
  unfold reals_Abs.f at h
  by_cases hm : m < 0
  · rw [if_pos hm] at h
    obtain ⟨⟨M, E, er⟩, g, h⟩ := Option.bind_eq_some_iff.mp h
    simp only [Option.some.injEq, Prod.mk.injEq] at h
    obtain ⟨rfl, rfl, rfl⟩ := h
    exact habs_walk k s m e 0 0 _ _ _ w (fun _ => ret_b fun w => reals_Neg.calls k s m e _ _ _ w g) (fun h => absurd hm h) (fun h => absurd hm h) (fun h => absurd hm h)
  · rw [if_neg hm] at h
    obtain ⟨⟨p, c⟩, hck, h⟩ := Option.bind_eq_some_iff.mp h
    dsimp only at h
    by_cases hc : c = 0
    · rw [if_pos hc] at h
      simp only [Option.some.injEq, Prod.mk.injEq] at h
      obtain ⟨rfl, rfl, rfl⟩ := h
      exact habs_walk k s m e p c _ _ _ w (fun h => absurd h hm) (fun _ => hck) (fun _ h => absurd hc h) (fun _ _ => ⟨rfl, rfl, rfl⟩)
    · rw [if_neg hc] at h
      simp only [Option.some.injEq, Prod.mk.injEq] at h
      obtain ⟨rfl, rfl, rfl⟩ := h
      exact habs_walk k s m e p c 0 0 c w (fun h => absurd h hm) (fun _ => hck) (fun _ _ => ⟨rfl, rfl, rfl⟩) (fun _ h => absurd h hc)
theorem wf64 {x : Int} (h : (Lit.int .i64 x).wf = true) : I64 x := by
  unfold I64
  simp [Lit.wf, IntKind.min, IntKind.max, IntKind.signed, IntKind.bits] at h; omega
theorem add_ret {s how m e n f D F c : Int} (hm : I64 m) (hn : I64 n) (h : addS s how m e n f = (D, F, c)) : Ret 21 #[.int .i64 s, .int .i64 how, .agg #[.int .i64 m, .int .i64 e], .agg #[.int .i64 n, .int .i64 f]] (.tuple #[.agg #[.int .i64 D, .int .i64 F], .int .i64 c]) := by
  obtain ⟨k, hk⟩ := (padd_is s how m e n f hm hn).rounds
  rw [h] at hk
  exact ret_b fun w => reals_Add.calls k s how m e n f D F c w hk
theorem sub_ret {s how m e n f D F c : Int} (hm : I64 m) (hn : I64 n) (h : subS s how m e n f = (D, F, c)) : Ret 23 #[.int .i64 s, .int .i64 how, .agg #[.int .i64 m, .int .i64 e], .agg #[.int .i64 n, .int .i64 f]] (.tuple #[.agg #[.int .i64 D, .int .i64 F], .int .i64 c]) := by
  obtain ⟨k, hk⟩ := (psub_is s how m e n f hm hn).rounds
  rw [h] at hk
  exact ret_b fun w => reals_Sub.calls k s how m e n f D F c w hk
theorem mul_ret {s how m e n f D F c : Int} (hm : I64 m) (hn : I64 n) (h : mulS s how m e n f = (D, F, c)) : Ret 25 #[.int .i64 s, .int .i64 how, .agg #[.int .i64 m, .int .i64 e], .agg #[.int .i64 n, .int .i64 f]] (.tuple #[.agg #[.int .i64 D, .int .i64 F], .int .i64 c]) := by
  obtain ⟨k, hk⟩ := (pmul_is s how m e n f hm hn).rounds
  rw [h] at hk
  exact ret_b fun w => reals_Mul.calls k s how m e n f D F c w hk
theorem div_ret {s how m e n f D F c : Int} (hm : I64 m) (hn : I64 n) (h : divS s how m e n f = (D, F, c)) : Ret 27 #[.int .i64 s, .int .i64 how, .agg #[.int .i64 m, .int .i64 e], .agg #[.int .i64 n, .int .i64 f]] (.tuple #[.agg #[.int .i64 D, .int .i64 F], .int .i64 c]) := by
  obtain ⟨k, hk⟩ := (pdiv_is s how m e n f hm hn).rounds
  rw [h] at hk
  exact ret_b fun w => reals_Div.calls k s how m e n f D F c w hk
theorem sqrt_ret {s how m e D F c : Int} (hm : I64 m) (h : sqrtS s how m e = (D, F, c)) : Ret 29 #[.int .i64 s, .int .i64 how, .agg #[.int .i64 m, .int .i64 e]] (.tuple #[.agg #[.int .i64 D, .int .i64 F], .int .i64 c]) := by
  obtain ⟨k, hk⟩ := (psqrt_is s how m e hm).rounds
  rw [h] at hk
  exact ret_b fun w => reals_Sqrt.calls k s how m e D F c w hk
theorem neg_ret {s m e D F c : Int} (hm : I64 m) (h : negS s m e = (D, F, c)) : Ret 31 #[.int .i64 s, .agg #[.int .i64 m, .int .i64 e]] (.tuple #[.agg #[.int .i64 D, .int .i64 F], .int .i64 c]) := by
  obtain ⟨k, hk⟩ := (pneg_is s m e hm).rounds
  rw [h] at hk
  exact ret_b fun w => reals_Neg.calls k s m e D F c w hk
theorem abs_ret {s m e D F c : Int} (hm : I64 m) (h : absS s m e = (D, F, c)) : Ret 33 #[.int .i64 s, .agg #[.int .i64 m, .int .i64 e]] (.tuple #[.agg #[.int .i64 D, .int .i64 F], .int .i64 c]) := by
  obtain ⟨k, hk⟩ := (pabs_is s m e hm).rounds
  rw [h] at hk
  exact ret_b fun w => reals_Abs.calls k s m e D F c w hk
theorem awake_ret : Ret 11 #[] (.bool true) :=
  awake_walk (ret_b fun w => reals_Make.calls 200 0 0 1000 (-3) 1 0 0 w (by decide +kernel)) (ret_b fun w => reals_Div.calls 200 (-1) 1 1 0 3 0 3333334 (-7) 0 w (by decide +kernel))
    (ret_b fun w => reals_Add.calls 200 (-1) 0 9999999 0 5 (-1) 1 7 0 w (by decide +kernel)) (ret_b fun w => reals_Sqrt.calls 200 0 0 2 0 14142135623731 (-13) 0 w (by decide +kernel))
theorem op_new0 (w : World) (m e n f : Int) : Bxs w (((w.alloc (.cells #[.int .i64 m, .int .i64 e] 29)).alloc (.cells #[.int .i64 n, .int .i64 f] 29)).alloc (.cells #[.int .i64 0, .int .i64 0] 29)) [(w.heap.size + 1 + 1, #[.int .i64 0, .int .i64 0], 29), (w.heap.size, #[.int .i64 m, .int .i64 e], 29), (w.heap.size + 1, #[.int .i64 n, .int .i64 f], 29)] := by
  have h := (((bxs_nil w).push #[.int .i64 m, .int .i64 e] 29).push #[.int .i64 n, .int .i64 f] 29).swap.push #[.int .i64 0, .int .i64 0] 29
  simpa using h
set_option maxHeartbeats 8000000 in
set_option maxRecDepth 100000 in
theorem hrmul_walk (k k2 k3 k4 k5 : Nat) (s how m e n f t M E er S : Int) (A B P : List Int) (w : World) (hrt : environref02_right.f k s how m e n f = some t) (hc : t ≠ 0 → M = 0 ∧ E = 0 ∧ er = t)
    (h0 : t = 0 → environref02_Of.f k2 m = some A ∧ environref02_Of.f k3 n = some B ∧ environref02_times.f k4 A B = some P ∧ IntKind.i64.wrap (e + f) = S ∧ environref02_Rounded.f k5 s how (decide (m < 0) != decide (n < 0)) P S false = some (M, E, er)) :
    Calls Try.prog 26 #[.int .i64 s, .int .i64 how, .agg #[.int .i64 m, .int .i64 e], .agg #[.int .i64 n, .int .i64 f]] w fun en w' => en = .returned (.tuple #[.agg #[.int .i64 M, .int .i64 E], .int .i64 er]) ∧ Below w.heap.size w w' := by
  have hu := Try.underlying29
  have hu2 := Try.underlying68
  have HRT := Aside0.mk hrt; have HC := Aside0.mk hc; have H0 := Aside0.mk h0
  clear hrt hc h0
  have HX := Aside0.mk (op_new0 w m e n f)
  go_enter Try.func26, Try.ntmps26
  go_wp2_with fail
  refine (environref02_right.calls k s how m e n f t _ HRT.out).mono ?_
  rintro e1 w1 ⟨rfl, hb⟩
  have HX1 := Aside0.mk (HX.out.next hb)
  clear hb HX
  obtain ⟨⟨x0, x1, y0, y1, z0, z1, f0, f1⟩, _⟩ := op_s HX1.out
  by_cases hc : t = 0
  · obtain ⟨hm, hn, ht, hS, hr⟩ := H0.out hc
    have HM := Aside0.mk hm; have HN := Aside0.mk hn; have HT := Aside0.mk ht
    have HR : Aside0 (environref02_Rounded.f k5 s how (!(decide (m < 0) == decide (n < 0))) P S false = some (M, E, er)) := ⟨hr⟩
    subst hc
    clear hm hn ht hr
    go_upto_region 4 with fail
    go_region_held3 (fun w' => (w'.cell? ⟨w.heap.size, 0, none⟩ = some (.int .i64 m) ∧ w'.cell? ⟨w.heap.size, 1, none⟩ = some (.int .i64 e) ∧ w'.cell? ⟨w.heap.size + 1, 0, none⟩ = some (.int .i64 n) ∧ w'.cell? ⟨w.heap.size + 1, 1, none⟩ = some (.int .i64 f)) ∧ Aside0 (Bxs w w' [(w.heap.size, #[.int .i64 m, .int .i64 e], 29), (w.heap.size + 1, #[.int .i64 n, .int .i64 f], 29)])) (((try go_split_ands); (refine op_t ?_); (first | exact op_far HX5.out | exact HX5.out.tail | exact HX4.out.tail | exact HX3.out.tail | exact HX2.out.tail | exact HX1.out.tail.drew))) (first | (go_at_call 48; (with_reducible refine (environref02_Of.calls k2 m A _ HM.out).mono ?_); rintro e1 w2 ⟨v1, rfl, hv, hb⟩; have HX2 := Aside0.mk (HX1.out.drew.next hb); obtain ⟨A1, a1, rfl⟩ := Kd.R_slice hv; have HA := Aside0.mk (Kd.R_V (base' := 0) hv); clear hb hv) | (go_at_call 48; (with_reducible refine (environref02_Of.calls k3 n B _ HN.out).mono ?_); rintro e1 w3 ⟨v2, rfl, hv, hb⟩; have HX3 := Aside0.mk (HX2.out.next hb); obtain ⟨B1, b1, rfl⟩ := Kd.R_slice hv; have HB := Aside0.mk (Kd.R_V (base' := 0) hv); have HA2 := Aside0.mk (Kd.V_below HA.out hb); clear hb hv) | (go_at_call 59; (with_reducible refine (environref02_times.calls k4 A1 a1 A B1 b1 B P _ (Kd.V_reads' HA2.out).2.2 (Kd.V_reads' HA2.out).2.1 (Kd.V_reads' HB.out).2.2 (Kd.V_reads' HB.out).2.1 HT.out).mono ?_); rintro e1 w4 ⟨v3, rfl, hv, hb⟩; have HX4 := Aside0.mk (HX3.out.next hb); obtain ⟨P1, p1, rfl⟩ := Kd.V_slice hv; have HP := Aside0.mk hv; clear hb hv) | (go_at_call 55; (with_reducible refine (environref02_Rounded.calls k5 s how (!(decide (m < 0) == decide (n < 0))) _ P1 p1 P S false M E er _ HP.out HR.out).mono ?_); rintro e1 w5 ⟨rfl, hb⟩; have HX5 := Aside0.mk (HX4.out.next hb); clear hb z0 z1 f0 f1; obtain ⟨⟨_, _, _, _, z0, z1, f0, f1⟩, _⟩ := op_s HX5.out))
    all_goals go_wp2_with fail
    all_goals exact bodyPost_ret (results_ct rfl _ _ _ 29 #[.int .i64 M, .int .i64 E] (0, 0) _ rfl (op_end HX5.out).1 Try.underlying29 rfl (by kernel_rfl)) rfl ⟨rfl, (op_end HX5.out).2⟩
  · obtain ⟨rfl, rfl, rfl⟩ := HC.out hc
    have hk : (er == 0) = false := by rw [beq_eq_false_iff_ne]; exact hc
    have hk2 : (er != 0) = true := by rw [bne_iff_ne]; exact hc
    clear hc
    go_wp2_with fail
    exact bodyPost_ret (results_ct rfl _ _ _ 29 #[.int .i64 0, .int .i64 0] (0, 0) _ rfl (op_end HX1.out).1 Try.underlying29 rfl (by kernel_rfl)) rfl ⟨rfl, (op_end HX1.out).2⟩
def RdivP (w wx : World) (m e n f : Int) (Q R : List Int) (s11 s12 : Value) : Prop := ∃ A a B b, s11 = .slice A Q.length a ∧ s12 = .slice B R.length b ∧ Aside0 (Kd.V (Kd.int .i64) 3 wx 0 (fun _ => True) (.slice A Q.length a) Q) ∧ R.length ≤ b ∧ Bxs w wx [(w.heap.size + 1 + 1, #[.int .i64 0, .int .i64 0], 29), (w.heap.size, #[.int .i64 m, .int .i64 e], 29), (w.heap.size + 1, #[.int .i64 n, .int .i64 f], 29)]
set_option maxHeartbeats 8000000 in
set_option maxRecDepth 100000 in
theorem hrdiv_walk (k k2 k3 k4 k5 : Nat) (s how m e n f t M E er S S2 : Int) (A A2 B Q R : List Int) (w : World) (hrt : environref02_right.f k s how m e n f = some t) (hc : t ≠ 0 → M = 0 ∧ E = 0 ∧ er = t) (hz : t = 0 → n = 0 → M = 0 ∧ E = 0 ∧ er = 11)
    (h0 : t = 0 → n ≠ 0 → environref02_Of.f k2 m = some A ∧ environref02_shift.f A 40 = some A2 ∧ environref02_Of.f k3 n = some B ∧ environref02_divide.f k4 A2 B = some (Q, R) ∧ IntKind.i64.wrap (e - f) = S ∧ IntKind.i64.wrap (S - 40) = S2 ∧ environref02_Rounded.f k5 s how (decide (m < 0) != decide (n < 0)) Q S2 (decide (0 < R.length)) = some (M, E, er)) :
    Calls Try.prog 28 #[.int .i64 s, .int .i64 how, .agg #[.int .i64 m, .int .i64 e], .agg #[.int .i64 n, .int .i64 f]] w fun en w' => en = .returned (.tuple #[.agg #[.int .i64 M, .int .i64 E], .int .i64 er]) ∧ Below w.heap.size w w' := by
  have hu := Try.underlying29
  have hu2 := Try.underlying68
  have HRT := Aside0.mk hrt; have HC := Aside0.mk hc; have HZ := Aside0.mk hz; have H0 := Aside0.mk h0
  clear hrt hc hz h0
  have HX := Aside0.mk (op_new0 w m e n f)
  go_enter Try.func28, Try.ntmps28
  go_wp2_with fail
  refine (environref02_right.calls k s how m e n f t _ HRT.out).mono ?_
  rintro e1 w1 ⟨rfl, hb⟩
  have HX1 := Aside0.mk (HX.out.next hb)
  clear hb HX
  obtain ⟨⟨x0, x1, y0, y1, z0, z1, f0, f1⟩, _⟩ := op_s HX1.out
  by_cases hc : t = 0
  · by_cases hn : n = 0
    · obtain ⟨rfl, rfl, rfl⟩ := HZ.out hc hn
      subst hc; subst hn
      go_wp2_with fail
      exact bodyPost_ret (results_ct rfl _ _ _ 29 #[.int .i64 0, .int .i64 0] (0, 0) _ rfl (op_end HX1.out).1 Try.underlying29 rfl (by kernel_rfl)) rfl ⟨rfl, (op_end HX1.out).2⟩
    · have hn1 : (n == 0) = false := by rw [beq_eq_false_iff_ne]; exact hn
      obtain ⟨g1, g2, g3, g4, g5, g6, g7⟩ := H0.out hc hn
      have G1 := Aside0.mk g1; have G2 := Aside0.mk g2; have G3 := Aside0.mk g3; have G4 := Aside0.mk g4; have G5 := Aside0.mk g5; have G6 := Aside0.mk g6
      have HR : Aside0 (environref02_Rounded.f k5 s how (!(decide (m < 0) == decide (n < 0))) Q S2 (decide (0 < R.length)) = some (M, E, er)) := ⟨g7⟩
      subst hc
      clear g1 g2 g3 g4 g5 g6 g7 hn
      go_upto_region 6 with fail
      go_cut [11, 12] (fun s11 s12 wx => RdivP w wx m e n f Q R s11 s12)
      case first =>
        go_region_held3 (fun w' => (w'.cell? ⟨w.heap.size, 0, none⟩ = some (.int .i64 m) ∧ w'.cell? ⟨w.heap.size, 1, none⟩ = some (.int .i64 e) ∧ w'.cell? ⟨w.heap.size + 1, 0, none⟩ = some (.int .i64 n) ∧ w'.cell? ⟨w.heap.size + 1, 1, none⟩ = some (.int .i64 f)) ∧ Aside0 (Bxs w w' [(w.heap.size, #[.int .i64 m, .int .i64 e], 29), (w.heap.size + 1, #[.int .i64 n, .int .i64 f], 29)])) (((try go_split_ands); (refine op_t ?_); (first | exact HX5.out.tail | exact HX4.out.tail | exact HX3.out.tail | exact HX2.out.tail | exact HX1.out.tail.drew))) (first | (go_at_call 48; (with_reducible refine (environref02_Of.calls k2 m A _ G1.out).mono ?_); rintro e1 w2 ⟨v1, rfl, hv, hb⟩; have HX2 := Aside0.mk (HX1.out.drew.next hb); have HA := Aside0.mk hv; have HBB := Aside0.mk hb; clear hb hv) | (go_at_call 63; (with_reducible refine (environref02_shift.calls (fun _ => True) v1 A 40 A2 w1.drew _ HBB.out HA.out G2.out).mono ?_); rintro e1 w3 ⟨v2, rfl, hv, hb, _⟩; have HX3 := Aside0.mk (HX1.out.drew.next hb); obtain ⟨A1, a1, rfl⟩ := Kd.R_slice hv; have HA2 := Aside0.mk (Kd.R_V (base' := 0) hv); clear hb hv) | (go_at_call 48; (with_reducible refine (environref02_Of.calls k3 n B _ G3.out).mono ?_); rintro e1 w4 ⟨v3, rfl, hv, hb⟩; have HX4 := Aside0.mk (HX3.out.next hb); obtain ⟨B1, b1, rfl⟩ := Kd.R_slice hv; have HB := Aside0.mk (Kd.R_V (base' := 0) hv); have HA3 := Aside0.mk (Kd.V_below HA2.out hb); clear hb hv) | (go_at_call 62; (with_reducible refine (environref02_divide.calls k4 A1 a1 A2 B1 b1 B Q R _ (Kd.V_reads' HA3.out).2.2 (Kd.V_reads' HA3.out).2.1 (Kd.V_reads' HB.out).2.2 (Kd.V_reads' HB.out).2.1 G4.out).mono ?_); rintro e1 w5 ⟨v4, v5, rfl, hv, hv2, hb⟩; have HX5 := Aside0.mk (HX4.out.next hb); obtain ⟨Q1, q1, rfl⟩ := Kd.V_slice hv; obtain ⟨R1, r1, rfl⟩ := Kd.V_slice hv2; have HQ := Aside0.mk hv; have HRR := Aside0.mk hv2; clear hb hv hv2) )
        all_goals (go_wp2_with fail; go_meet)
        all_goals exact ⟨_, _, _, _, rfl, rfl, ⟨Kd.V_mono HQ.out (fun _ _ => trivial)⟩, (Kd.V_reads' HRR.out).2.1, HX5.out⟩
      case rest =>
        obtain ⟨QA, qa, RA, ra, rfl, rfl, HQ, hrl, HX6⟩ := hcut
        have HX := Aside0.mk HX6
        clear HX6 HX1 x0 x1 y0 y1 z0 z1 f0 f1
        obtain ⟨⟨x0, x1, y0, y1, z0, z1, f0, f1⟩, _⟩ := op_s HX.out
        have g5 := G5.out; have g6 := G6.out
        go_wp2_with fail
        refine (environref02_Rounded.calls k5 s how (!(decide (m < 0) == decide (n < 0))) (fun _ => True) QA qa Q S2 (decide (0 < R.length)) M E er _ HQ.out HR.out).mono ?_
        rintro e1 w7 ⟨rfl, hb⟩
        have HX7 := Aside0.mk (HX.out.next hb)
        clear hb HX x0 x1 y0 y1 z0 z1 f0 f1
        obtain ⟨⟨x0, x1, y0, y1, z0, z1, f0, f1⟩, _⟩ := op_s HX7.out
        go_wp2_with fail
        exact bodyPost_ret (results_ct rfl _ _ _ 29 #[.int .i64 M, .int .i64 E] (0, 0) _ rfl (op_end HX7.out).1 Try.underlying29 rfl (by kernel_rfl)) rfl ⟨rfl, (op_end HX7.out).2⟩
  · obtain ⟨rfl, rfl, rfl⟩ := HC.out hc
    have hk : (er == 0) = false := by rw [beq_eq_false_iff_ne]; exact hc
    have hk2 : (er != 0) = true := by rw [bne_iff_ne]; exact hc
    clear hc
    go_wp2_with fail
    exact bodyPost_ret (results_ct rfl _ _ _ 29 #[.int .i64 0, .int .i64 0] (0, 0) _ rfl (op_end HX1.out).1 Try.underlying29 rfl (by kernel_rfl)) rfl ⟨rfl, (op_end HX1.out).2⟩
theorem c4 {w : World} {g : Nat} {a b c d : Value} {t : TypeId} (h : w.heap[g]? = some (.cells #[a, b, c, d] t (0, 0))) : w.cell? ⟨g, 0, none⟩ = some a ∧ w.cell? ⟨g, 1, none⟩ = some b ∧ w.cell? ⟨g, 2, none⟩ = some c ∧ w.cell? ⟨g, 3, none⟩ = some d :=
  ⟨(blk_cell h 0).trans rfl, (blk_cell h 1).trans rfl, (blk_cell h 2).trans rfl, (blk_cell h 3).trans rfl⟩
theorem f4 {w : World} {g : Nat} {a b c d : Value} {t : TypeId} (h : w.heap[g]? = some (.cells #[a, b, c, d] t (0, 0))) : w.frozen? ⟨g, 0, none⟩ = false ∧ w.frozen? ⟨g, 1, none⟩ = false ∧ w.frozen? ⟨g, 2, none⟩ = false ∧ w.frozen? ⟨g, 3, none⟩ = false := ⟨blk_frozen h 0, blk_frozen h 1, blk_frozen h 2, blk_frozen h 3⟩
theorem Bxs.put4 {w wx : World} {g : Nat} {a b c d a' b' c' d' : Value} {t : TypeId} {l : List (Nat × Array Value × TypeId)} (h : Bxs w wx ((g, #[a, b, c, d], t) :: l)) (hl : ∀ p ∈ l, p.1 ≠ g) (hg : w.heap.size ≤ g) : Bxs w ((((wx.setCell ⟨g, 0, none⟩ a').setCell ⟨g, 1, none⟩ b').setCell ⟨g, 2, none⟩ c').setCell ⟨g, 3, none⟩ d') ((g, #[a', b', c', d'], t) :: l) := by
  refine ⟨fun p hp => ?_, below_set (below_set (below_set (below_set h.b hg) hg) hg) hg⟩
  rcases List.mem_cons.1 hp with rfl | hp
  · exact blk_put (blk_put (blk_put (blk_put h.get 0 _ rfl) 1 _ rfl) 2 _ rfl) 3 _ rfl
  · exact blk_far (blk_far (blk_far (blk_far (h.tail.h p hp) (hl p hp) _) (hl p hp) _) (hl p hp) _) (hl p hp) _
theorem Bxs.kept {w wx w2 : World} {S : Nat → Prop} {bs : List (Nat × Array Value × TypeId)} (h : Bxs w wx bs) (hb : Below w.heap.size w w2) (hk : Kept wx w2 S) (hs : ∀ p ∈ bs, ¬ S p.1) : Bxs w w2 bs := ⟨fun p hp => blk_kept (h.h p hp) hk (hs p hp), hb⟩
abbrev ZB : Array Value := #[.bool false, .slice none 0 0, .int .i64 0, .bool false]
abbrev XB (n : Bool) (A : Option Addr) (l : List Int) (a : Nat) (e : Int) (m : Bool) : Array Value := #[.bool n, .slice A l.length a, .int .i64 e, .bool m]
def RsumC (k : Nat) (zn : Bool) (zN : List Int) (ze : Int) (zm : Bool) (w0 w wx : World) : Prop := ∃ (an am bn bm : Bool) (aN bN : List Int) (ae be : Int) (A B : Option Addr) (a b : Nat) (P Q : Nat → Prop), Bxs w0 wx [(w.heap.size + 1 + 1, ZB, 68), (w.heap.size, XB an A aN a ae am, 68), (w.heap.size + 1, XB bn B bN b be bm, 68)] ∧ Below w.heap.size w wx ∧ Kd.R (Kd.int .i64) 3 w w0.heap.size P (.slice A aN.length a) aN ∧ Kd.R (Kd.int .i64) 3 w w0.heap.size Q (.slice B bN.length b) bN ∧ (∀ k, Q k → ¬ P k) ∧ (∀ k, Q k → k < w.heap.size) ∧ w0.heap.size ≤ w.heap.size ∧ rsum_g k an aN ae bn bN be = some (zn, zN, ze, zm)
theorem rsum_new {w0 w : World} (hB : Below w0.heap.size w0 w) (a b : Array Value) : Bxs w0 (((w.alloc (.cells a 68)).alloc (.cells b 68)).alloc (.cells ZB 68)) [(w.heap.size + 1 + 1, ZB, 68), (w.heap.size, a, 68), (w.heap.size + 1, b, 68)] := by
  have h := (((Bxs.mk (bs := []) (fun _ h => (List.not_mem_nil h).elim) hB).push a 68).push b 68).swap.push ZB 68
  simpa using h
abbrev set4 (w : World) (g : Nat) (a b c d : Value) : World := (((w.setCell ⟨g, 0, none⟩ a).setCell ⟨g, 1, none⟩ b).setCell ⟨g, 2, none⟩ c).setCell ⟨g, 3, none⟩ d
theorem rsum_x {w0 w w' : World} {X : Array Value × TypeId} {an am : Bool} {A : Option Addr} {aN : List Int} {a : Nat} {ae : Int} (h : Bxs w0 w' [(w.heap.size, XB an A aN a ae am, 68)]) : (w'.cell? ⟨w.heap.size, 0, none⟩ = some (.bool an) ∧ w'.cell? ⟨w.heap.size, 1, none⟩ = some (.slice A aN.length a) ∧ w'.cell? ⟨w.heap.size, 2, none⟩ = some (.int .i64 ae)) ∧ Aside0 (Bxs w0 w' [(w.heap.size, XB an A aN a ae am, 68)]) := by
  obtain ⟨a, b, c, d⟩ := c4 h.get
  exact ⟨⟨a, b, c⟩, ⟨h⟩⟩
theorem rsum_end {w0 w w2 w3 : World} {bs : List (Nat × Array Value × TypeId)} {b : Nat} {v : Value} {c : List Int} (hs : w0.heap.size ≤ w.heap.size) (hl : w.heap.size + 1 + 1 < w2.heap.size) (h : Bxs w0 w3 ((w.heap.size + 1 + 1, ZB, 68) :: bs)) (hv : Kd.V (Kd.int .i64) 3 w3 b (fun k => w2.heap.size ≤ k) v c) (n : Bool) (e : Int) :
    (set4 w3 (w.heap.size + 1 + 1) (.bool n) v (.int .i64 e) (.bool false)).heap[w.heap.size + 1 + 1]? = some (.cells #[.bool n, v, .int .i64 e, .bool false] 68 (0, 0)) ∧ Kd.V (Kd.int .i64) 3 (set4 w3 (w.heap.size + 1 + 1) (.bool n) v (.int .i64 e) (.bool false)) 0 (fun _ => True) v c ∧ Below w0.heap.size w0 (set4 w3 (w.heap.size + 1 + 1) (.bool n) v (.int .i64 e) (.bool false)) := by
  have hk : ∀ k, w2.heap.size ≤ k → k ≠ w.heap.size + 1 + 1 := fun k hk => by omega
  refine ⟨blk_put (blk_put (blk_put (blk_put h.get 0 _ rfl) 1 _ rfl) 2 _ rfl) 3 _ rfl, ?_, below_set (below_set (below_set (below_set h.b (by omega)) (by omega)) (by omega)) (by omega)⟩
  exact Kd.V_mono (Kd.V_map (base' := 0) hv (fun _ hf => Kd.F_step hf (fun k hk1 _ => (((Below.heap_setCell _ _ _ k (hk k hk1)).trans (Below.heap_setCell _ _ _ k (hk k hk1))).trans (Below.heap_setCell _ _ _ k (hk k hk1))).trans (Below.heap_setCell _ _ _ k (hk k hk1))))) (fun _ _ => trivial)
theorem rsum_far {w0 w3 : World} {p q : Nat × Array Value × TypeId} {g : Nat} {a b c d : Value} (hs : w0.heap.size ≤ g) (h : Bxs w0 w3 ((g, ZB, 68) :: [p, q])) (hp : p.1 ≠ g) : Bxs w0 (set4 w3 g a b c d) [p] :=
  ⟨fun r hr => by simp only [List.mem_cons, List.not_mem_nil, or_false] at hr; subst hr; exact blk_far (blk_far (blk_far (blk_far (show w3.heap[r.1]? = some (.cells r.2.1 r.2.2 (0, 0)) from h.tail.h _ (List.mem_cons_self ..)) hp _) hp _) hp _) hp _, below_set (below_set (below_set (below_set h.b hs) hs) hs) hs⟩
theorem rsum_far2 {w0 w3 : World} {p q : Nat × Array Value × TypeId} {g : Nat} {a b c d : Value} (hs : w0.heap.size ≤ g) (h : Bxs w0 w3 ((g, ZB, 68) :: [p, q])) (hp : p.1 ≠ g) (hq : q.1 ≠ g) : Bxs w0 (set4 w3 g a b c d) [p, q] :=
  ⟨fun r hr => by
    simp only [List.mem_cons, List.not_mem_nil, or_false] at hr
    rcases hr with rfl | rfl
    · exact (rsum_far (a := a) (b := b) (c := c) (d := d) hs h hp).get
    · exact (rsum_far (a := a) (b := b) (c := c) (d := d) hs (h.perm (l' := [(g, ZB, 68), r, p]) (by intro x hx; simp only [List.mem_cons, List.not_mem_nil, or_false] at hx ⊢; rcases hx with h | h | h <;> simp [h])) hq).get, below_set (below_set (below_set (below_set h.b hs) hs) hs) hs⟩
theorem rsum_y {w0 w w' : World} {an am bn bm : Bool} {A B : Option Addr} {aN bN : List Int} {a b : Nat} {ae be : Int} (h : Bxs w0 w' [(w.heap.size, XB an A aN a ae am, 68), (w.heap.size + 1, XB bn B bN b be bm, 68)]) : (w'.cell? ⟨w.heap.size + 1, 0, none⟩ = some (.bool bn) ∧ w'.cell? ⟨w.heap.size, 1, none⟩ = some (.slice A aN.length a) ∧ w'.cell? ⟨w.heap.size, 2, none⟩ = some (.int .i64 ae)) ∧ Aside0 (Bxs w0 w' [(w.heap.size, XB an A aN a ae am, 68), (w.heap.size + 1, XB bn B bN b be bm, 68)]) := by
  obtain ⟨_, b, c, d⟩ := c4 h.get
  obtain ⟨a, _, _, _⟩ := c4 h.tail.get
  exact ⟨⟨a, b, c⟩, ⟨h⟩⟩
theorem results_c1 {P : Program} {fn : Func} {p : Tmp} {ty : TypeId} (h : fn.results = #[.cell p ty]) (tmps : Array Value) (w : World) (g : Nat) (t : TypeId) (cs : Array Value) (fr : Nat × Nat) (d : TypeDesc) (hp : tmps.getD p undef = .pointer (some ⟨g, 0, none⟩)) (hg : w.heap[g]? = some (.cells cs t fr)) (hu : P.underlying ty = some d) (hd : (match d with | .struct _ | .array _ _ => true | _ => false) = true) (hi : (P.info? ty).map (·.size) = some cs.size) : (results fn tmps).run P w = .ok (.agg cs) w := by
  have hp' : tmps[p]?.getD undef = .pointer (some ⟨g, 0, none⟩) := by simpa using hp
  simp [results, h, hp', asAddr, run_loadVar_row w g t ty cs fr d hg hu hd hi]
theorem bl3 (w : World) (a b c : Obj) : Below w.heap.size w (((w.alloc a).alloc b).alloc c) := below_alloc (below_alloc (below_alloc (Below.refl _ _) _) _) _
set_option maxHeartbeats 8000000 in
set_option maxRecDepth 100000 in
theorem hrsum_walk (k : Nat) (xn yn mx my zn zm : Bool) (xN yN zN : List Int) (xe ye ze : Int) (P Q : Nat → Prop) (vx vy : Value) (w0 w : World) (hB : Below w0.heap.size w0 w) (hx : Kd.R (Kd.int .i64) 3 w w0.heap.size P vx xN) (hy : Kd.R (Kd.int .i64) 3 w w0.heap.size Q vy yN) (hd : ∀ k, P k → ¬ Q k) (h : environref02_sum.f k xn xN xe yn yN ye = some (zn, zN, ze, zm)) :
    Calls Try.prog 57 #[.agg #[.bool xn, vx, .int .i64 xe, .bool mx], .agg #[.bool yn, vy, .int .i64 ye, .bool my]] w fun en w' => ∃ v, en = .returned (.agg #[.bool zn, v, .int .i64 ze, .bool zm]) ∧ Kd.V (Kd.int .i64) 3 w' 0 (fun _ => True) v zN ∧ Below w0.heap.size w0 w' := by
  obtain ⟨X1, x1, rfl⟩ := Kd.R_slice hx
  obtain ⟨Y1, y1, rfl⟩ := Kd.R_slice hy
  have hu := Try.underlying68
  have HB := Aside0.mk hB
  have HP := Aside0.mk (Kd.R_mono (Kd.R_bound hx) (ok' := fun k => P k ∧ k < w.heap.size) (fun _ hk => ⟨hk.1, hk.2.2.1⟩))
  have HQ := Aside0.mk (Kd.R_mono (Kd.R_bound hy) (ok' := fun k => Q k ∧ k < w.heap.size) (fun _ hk => ⟨hk.1, hk.2.2.1⟩))
  have HD := Aside0.mk hd
  have HF := Aside0.mk h
  have hsz := hB.size
  clear hx hy hd h hB
  go_enter Try.func57, Try.ntmps57
  go_upto_if 10 with fail
  go_cut [] (fun wx => RsumC k zn zN ze zm w0 w wx)
  case first =>
    have hf := HF.out
    unfold environref02_sum.f at hf
    by_cases hc : ye < xe
    · rw [if_pos (show xe > ye from hc)] at hf
      have hc1 : decide (ye < xe) = true := decide_eq_true hc
      have H2 := Aside0.mk hf
      clear hf HF
      go_wp2_with fail
      go_meet
      exact ⟨yn, my, xn, mx, yN, xN, ye, xe, Y1, X1, y1, x1, _, _, rsum_new HB.out _ _, bl3 w _ _ _, HQ.out, HP.out, fun k h1 h2 => HD.out k h1.1 h2.1, fun k h => h.2, hsz, H2.out⟩
    · rw [if_neg (show ¬ xe > ye from hc)] at hf
      have hc1 : decide (ye < xe) = false := decide_eq_false hc
      have H2 := Aside0.mk hf
      clear hf HF
      go_wp2_with fail
      go_meet
      exact ⟨xn, mx, yn, my, xN, yN, xe, ye, X1, Y1, x1, y1, _, _, rsum_new HB.out _ _, bl3 w _ _ _, HP.out, HQ.out, fun k h1 h2 => HD.out k h2.1 h1.1, fun k h => h.2, hsz, H2.out⟩
  case rest =>
    obtain ⟨an, am, bn, bm, aN, bN, ae, be, A, B, a, b, P', Q', hx, hbw, hp, hq, hne, hlt, _, hg⟩ := hcut
    have HX := Aside0.mk hx
    have HBW := Aside0.mk hbw
    have HA := Aside0.mk hp; have HBB := Aside0.mk hq; have HNE := Aside0.mk hne; have HLT := Aside0.mk hlt
    obtain ⟨bs, hsh, hg⟩ := Option.bind_eq_some_iff.mp hg
    have HSH := Aside0.mk hsh; have HG := Aside0.mk hg
    clear hx hbw hp hq hne hlt hsh hg HP HQ HD HF
    obtain ⟨z0, z1, z2, z3⟩ := c4 HX.out.get
    obtain ⟨x0, x1, x2, x3⟩ := c4 HX.out.tail.get
    obtain ⟨y0, y1, y2, y3⟩ := c4 HX.out.tail.tail.get
    go_wp2_with fail
    refine (environref02_shift.calls Q' (.slice B bN.length b) bN (wrap64 (be - ae)) bs w0 _ HX.out.b (Kd.R_below HBB.out HBW.out) HSH.out).mono ?_
    rintro e1 w2 ⟨v2, rfl, hv, hb, hk⟩
    obtain ⟨B2, b2, rfl⟩ := Kd.R_slice hv
    have HV := Aside0.mk (Kd.R_V (base' := 0) hv)
    have HA2 := Aside0.mk (Kd.V_kept (Kd.R_V (base' := 0) (Kd.R_below HA.out HBW.out)) hk (fun k h1 h2 => HNE.out k h2 h1))
    have HX2 := Aside0.mk (HX.out.kept hb hk (fun p hp h => by
      have := HLT.out _ h
      simp only [List.mem_cons, List.not_mem_nil, or_false] at hp
      rcases hp with rfl | rfl | rfl <;> dsimp only at this <;> omega))
    clear hv hb hk HX HA HBB HNE HLT HSH HBW z0 z1 z2 z3 x0 x1 x2 x3 y0 y1 y2 y3
    obtain ⟨z0, z1, z2, z3⟩ := c4 HX2.out.get
    obtain ⟨k0, k1, k2, k3⟩ := f4 HX2.out.get
    obtain ⟨x0, x1, x2, x3⟩ := c4 HX2.out.tail.get
    obtain ⟨y0, y1, y2, y3⟩ := c4 HX2.out.tail.tail.get
    have hl := blk_lt HX2.out.get
    by_cases hs : an = bn
    · have hg := HG.out
      rw [if_pos hs] at hg
      obtain ⟨c, hpl, hg⟩ := Option.bind_eq_some_iff.mp hg
      simp only [Option.some.injEq, Prod.mk.injEq] at hg
      obtain ⟨rfl, rfl, rfl, rfl⟩ := hg
      have HPL := Aside0.mk hpl
      clear hpl HG
      subst hs
      go_upto_region 5 with fail
      go_region_held3 (fun w' => (w'.cell? ⟨w.heap.size, 0, none⟩ = some (.bool an) ∧ w'.cell? ⟨w.heap.size, 1, none⟩ = some (.slice A aN.length a) ∧ w'.cell? ⟨w.heap.size, 2, none⟩ = some (.int .i64 ae)) ∧ Aside0 (Bxs w0 w' [(w.heap.size, XB an A aN a ae am, 68)])) (((try go_split_ands); (refine rsum_x (X := (#[], 0)) ?_); (first | exact rsum_far (by omega) HX3.out (by dsimp only; omega) | exact HX3.out.perm (by intro p hp; simp only [List.mem_cons, List.not_mem_nil, or_false] at hp ⊢; simp [hp]) | exact (HX2.out.perm (by intro p hp; simp only [List.mem_cons, List.not_mem_nil, or_false] at hp ⊢; simp [hp])).drew))) (first | (go_at_call 83; (with_reducible refine (environref02_plus.calls k A a aN B2 b2 bs c _ (Kd.V_reads' (Kd.V_drew HA2.out)).2.2 (Kd.V_reads' HA2.out).2.1 (Kd.V_reads' (Kd.V_drew HV.out)).2.2 (Kd.V_reads' HV.out).2.1 HPL.out).mono ?_); rintro e1 w3 ⟨v3, rfl, hv, hb⟩; obtain ⟨C1, c1, rfl⟩ := Kd.V_slice hv; have HX3 := Aside0.mk (HX2.out.drew.next hb); have HC := Aside0.mk hv; clear hb hv z0 z1 z2 z3 k0 k1 k2 k3; obtain ⟨z0, z1, z2, z3⟩ := c4 HX3.out.get; obtain ⟨k0, k1, k2, k3⟩ := f4 HX3.out.get))
      all_goals go_wp2_with fail
      all_goals exact bodyPost_ret (results_c1 rfl _ _ _ 68 #[.bool an, .slice C1 c.length c1, .int .i64 ae, .bool false] (0, 0) _ rfl (rsum_end hsz hl HX3.out HC.out _ _).1 Try.underlying68 rfl (by kernel_rfl)) rfl ⟨_, rfl, (rsum_end hsz hl HX3.out HC.out _ _).2.1, (rsum_end hsz hl HX3.out HC.out _ _).2.2⟩
    · have hs1 : (an == bn) = false := by rw [beq_eq_false_iff_ne]; exact hs
      have hg := HG.out
      rw [if_neg hs] at hg
      obtain ⟨tt, hcm, hg⟩ := Option.bind_eq_some_iff.mp hg
      have HCM := Aside0.mk hcm
      have HG2 := Aside0.mk hg
      clear hcm hg HG hs
      go_wp2_with fail
      refine (environref02_compare.calls k A a aN B2 b2 bs tt _ (Kd.V_reads' HA2.out).2.2 (Kd.V_reads' HA2.out).2.1 (Kd.V_reads' HV.out).2.2 (Kd.V_reads' HV.out).2.1 HCM.out).mono ?_
      rintro e1 w3 ⟨rfl, hd⟩
      have HX3 := Aside0.mk (HX2.out.next hd.below)
      have HA3 := Aside0.mk (Kd.V_below HA2.out hd.below)
      have HV3 := Aside0.mk (Kd.V_below HV.out hd.below)
      have hl2 := blk_lt HX3.out.get
      clear hd HX2 HA2 HV HCM z0 z1 z2 z3 k0 k1 k2 k3 x0 x1 x2 x3 y0 y1 y2 y3
      obtain ⟨z0, z1, z2, z3⟩ := c4 HX3.out.get
      obtain ⟨k0, k1, k2, k3⟩ := f4 HX3.out.get
      obtain ⟨x0, x1, x2, x3⟩ := c4 HX3.out.tail.get
      obtain ⟨y0, y1, y2, y3⟩ := c4 HX3.out.tail.tail.get
      have hg := HG2.out
      clear HG2
      by_cases hc : 0 ≤ tt
      · rw [if_pos (show tt ≥ 0 from hc)] at hg
        obtain ⟨c, hpl, hg⟩ := Option.bind_eq_some_iff.mp hg
        simp only [Option.some.injEq, Prod.mk.injEq] at hg
        obtain ⟨rfl, rfl, rfl, rfl⟩ := hg
        have HPL := Aside0.mk hpl
        clear hpl
        have hc1 : decide (0 ≤ tt) = true := decide_eq_true hc
        go_upto_region 7 with fail
        go_region_held3 (fun w' => (w'.cell? ⟨w.heap.size, 0, none⟩ = some (.bool an) ∧ w'.cell? ⟨w.heap.size, 1, none⟩ = some (.slice A aN.length a) ∧ w'.cell? ⟨w.heap.size, 2, none⟩ = some (.int .i64 ae)) ∧ Aside0 (Bxs w0 w' [(w.heap.size, XB an A aN a ae am, 68)])) (((try go_split_ands); (refine rsum_x (X := (#[], 0)) ?_); (first | exact rsum_far (by omega) HX4.out (by dsimp only; omega) | exact HX4.out.perm (by intro p hp; simp only [List.mem_cons, List.not_mem_nil, or_false] at hp ⊢; simp [hp]) | exact (HX3.out.perm (by intro p hp; simp only [List.mem_cons, List.not_mem_nil, or_false] at hp ⊢; simp [hp])).drew))) (first | (go_at_call 86; (with_reducible refine (environref02_minus.calls k A a aN B2 b2 bs c _ (Kd.V_reads' (Kd.V_drew HA3.out)).2.2 (Kd.V_reads' HA3.out).2.1 (Kd.V_reads' (Kd.V_drew HV3.out)).2.2 (Kd.V_reads' HV3.out).2.1 HPL.out).mono ?_); rintro e1 w4 ⟨v3, rfl, hv, hb⟩; obtain ⟨C1, c1, rfl⟩ := Kd.V_slice hv; have HX4 := Aside0.mk (HX3.out.drew.next hb); have HC := Aside0.mk hv; clear hb hv z0 z1 z2 z3 k0 k1 k2 k3; obtain ⟨z0, z1, z2, z3⟩ := c4 HX4.out.get; obtain ⟨k0, k1, k2, k3⟩ := f4 HX4.out.get))
        all_goals go_wp2_with fail
        all_goals exact bodyPost_ret (results_c1 rfl _ _ _ 68 #[.bool an, .slice C1 c.length c1, .int .i64 ae, .bool false] (0, 0) _ rfl (rsum_end hsz hl2 HX4.out HC.out _ _).1 Try.underlying68 rfl (by kernel_rfl)) rfl ⟨_, rfl, (rsum_end hsz hl2 HX4.out HC.out _ _).2.1, (rsum_end hsz hl2 HX4.out HC.out _ _).2.2⟩
      · rw [if_neg (show ¬ tt ≥ 0 from hc)] at hg
        obtain ⟨c, hpl, hg⟩ := Option.bind_eq_some_iff.mp hg
        simp only [Option.some.injEq, Prod.mk.injEq] at hg
        obtain ⟨rfl, rfl, rfl, rfl⟩ := hg
        have HPL := Aside0.mk hpl
        clear hpl
        have hc1 : decide (0 ≤ tt) = false := decide_eq_false hc
        go_upto_region 8 with fail
        go_region_held3 (fun w' => (w'.cell? ⟨w.heap.size + 1, 0, none⟩ = some (.bool bn) ∧ w'.cell? ⟨w.heap.size, 1, none⟩ = some (.slice A aN.length a) ∧ w'.cell? ⟨w.heap.size, 2, none⟩ = some (.int .i64 ae)) ∧ Aside0 (Bxs w0 w' [(w.heap.size, XB an A aN a ae am, 68), (w.heap.size + 1, XB bn B bN b be bm, 68)])) (((try go_split_ands); (refine rsum_y ?_); (first | exact rsum_far2 (by omega) HX4.out (by dsimp only; omega) (by dsimp only; omega) | exact HX4.out.tail | exact HX3.out.tail.drew))) (first | (go_at_call 86; (with_reducible refine (environref02_minus.calls k B2 b2 bs A a aN c _ (Kd.V_reads' (Kd.V_drew HV3.out)).2.2 (Kd.V_reads' HV3.out).2.1 (Kd.V_reads' (Kd.V_drew HA3.out)).2.2 (Kd.V_reads' HA3.out).2.1 HPL.out).mono ?_); rintro e1 w4 ⟨v3, rfl, hv, hb⟩; obtain ⟨C1, c1, rfl⟩ := Kd.V_slice hv; have HX4 := Aside0.mk (HX3.out.drew.next hb); have HC := Aside0.mk hv; clear hb hv z0 z1 z2 z3 k0 k1 k2 k3; obtain ⟨z0, z1, z2, z3⟩ := c4 HX4.out.get; obtain ⟨k0, k1, k2, k3⟩ := f4 HX4.out.get))
        all_goals go_wp2_with fail
        all_goals exact bodyPost_ret (results_c1 rfl _ _ _ 68 #[.bool bn, .slice C1 c.length c1, .int .i64 ae, .bool false] (0, 0) _ rfl (rsum_end hsz hl2 HX4.out HC.out _ _).1 Try.underlying68 rfl (by kernel_rfl)) rfl ⟨_, rfl, (rsum_end hsz hl2 HX4.out HC.out _ _).2.1, (rsum_end hsz hl2 HX4.out HC.out _ _).2.2⟩
set_option maxHeartbeats 8000000 in
set_option maxRecDepth 100000 in
theorem hradd_walk (k k2 k3 k4 k5 : Nat) (s how m e n f t M E er xe ye ze : Int) (xn xm yn ym zn zm : Bool) (xN yN zN : List Int) (w : World) (hrt : environref02_right.f k s how m e n f = some t) (hc : t ≠ 0 → M = 0 ∧ E = 0 ∧ er = t)
    (h0 : t = 0 → environref02_Exactly.f k2 m e = some (xn, xN, xe, xm) ∧ environref02_Exactly.f k3 n f = some (yn, yN, ye, ym) ∧ environref02_sum.f k4 xn xN xe yn yN ye = some (zn, zN, ze, zm) ∧ environref02_Rounded.f k5 s how zn zN ze zm = some (M, E, er)) :
    Calls Try.prog 22 #[.int .i64 s, .int .i64 how, .agg #[.int .i64 m, .int .i64 e], .agg #[.int .i64 n, .int .i64 f]] w fun en w' => en = .returned (.tuple #[.agg #[.int .i64 M, .int .i64 E], .int .i64 er]) ∧ Below w.heap.size w w' := by
  have hu := Try.underlying29
  have hu2 := Try.underlying68
  have HRT := Aside0.mk hrt; have HC := Aside0.mk hc; have H0 := Aside0.mk h0
  clear hrt hc h0
  have HX := Aside0.mk (op_new0 w m e n f)
  go_enter Try.func22, Try.ntmps22
  go_wp2_with fail
  refine (environref02_right.calls k s how m e n f t _ HRT.out).mono ?_
  rintro e1 w1 ⟨rfl, hb⟩
  have HX1 := Aside0.mk (HX.out.next hb)
  clear hb HX
  obtain ⟨⟨x0, x1, y0, y1, z0, z1, f0, f1⟩, _⟩ := op_s HX1.out
  by_cases hc : t = 0
  · obtain ⟨g1, g2, g3, g4⟩ := H0.out hc
    have G1 := Aside0.mk g1; have G2 := Aside0.mk g2; have G3 := Aside0.mk g3; have G4 := Aside0.mk g4
    subst hc
    clear g1 g2 g3 g4
    go_upto_region 4 with fail
    go_region_held3 (fun w' => (w'.cell? ⟨w.heap.size, 0, none⟩ = some (.int .i64 m) ∧ w'.cell? ⟨w.heap.size, 1, none⟩ = some (.int .i64 e) ∧ w'.cell? ⟨w.heap.size + 1, 0, none⟩ = some (.int .i64 n) ∧ w'.cell? ⟨w.heap.size + 1, 1, none⟩ = some (.int .i64 f)) ∧ Aside0 (Bxs w w' [(w.heap.size, #[.int .i64 m, .int .i64 e], 29), (w.heap.size + 1, #[.int .i64 n, .int .i64 f], 29)])) (((try go_split_ands); (refine op_t ?_); (first | exact op_far HX5.out | exact HX5.out.tail | exact HX4.out.tail | exact HX3.out.tail | exact HX2.out.tail | exact HX1.out.tail.drew))) (first | (go_at_call 54; (with_reducible refine (environref02_Exactly.calls k2 m e xn xN xe xm _ G1.out).mono ?_); rintro e1 w2 ⟨v1, rfl, hv, hb⟩; have HX2 := Aside0.mk (HX1.out.drew.next hb); have HA := Aside0.mk hv; have HBA := Aside0.mk hb; clear hb hv) | (go_at_call 54; (with_reducible refine (environref02_Exactly.calls k3 n f yn yN ye ym _ G2.out).mono ?_); rintro e1 w3 ⟨v2, rfl, hv, hb⟩; have HX3 := Aside0.mk (HX2.out.next hb); have HB := Aside0.mk hv; have HBB := Aside0.mk hb; clear hb hv) | (go_at_call 57; (with_reducible refine (hrsum_walk k4 xn yn xm ym zn zm xN yN zN xe ye ze (fun k => k < w2.heap.size) (fun k => w2.heap.size ≤ k) v1 v2 w1.drew w3 (below_step HBA.out HBB.out) (Kd.R_below (Kd.R_mono (Kd.R_bound HA.out) (fun _ hk => hk.2.2.1)) HBB.out) (Kd.R_lower (Kd.R_mono (Kd.R_bound HB.out) (fun _ hk => hk.2.1)) HBA.out.size) (fun k h1 h2 => by omega) G3.out).mono ?_); rintro e1 w4 ⟨v3, rfl, hv, hb⟩; have HX4 := Aside0.mk (HX1.out.drew.next hb); obtain ⟨Z1, z1', rfl⟩ := Kd.V_slice hv; have HZ := Aside0.mk hv; clear hb hv) | (go_at_call 55; (with_reducible refine (environref02_Rounded.calls k5 s how zn _ Z1 z1' zN ze zm M E er _ HZ.out G4.out).mono ?_); rintro e1 w5 ⟨rfl, hb⟩; have HX5 := Aside0.mk (HX4.out.next hb); clear hb z0 z1 f0 f1; obtain ⟨⟨_, _, _, _, z0, z1, f0, f1⟩, _⟩ := op_s HX5.out))
    all_goals go_wp2_with fail
    all_goals exact bodyPost_ret (results_ct rfl _ _ _ 29 #[.int .i64 M, .int .i64 E] (0, 0) _ rfl (op_end HX5.out).1 Try.underlying29 rfl (by kernel_rfl)) rfl ⟨rfl, (op_end HX5.out).2⟩
  · obtain ⟨rfl, rfl, rfl⟩ := HC.out hc
    have hk : (er == 0) = false := by rw [beq_eq_false_iff_ne]; exact hc
    have hk2 : (er != 0) = true := by rw [bne_iff_ne]; exact hc
    clear hc
    go_wp2_with fail
    exact bodyPost_ret (results_ct rfl _ _ _ 29 #[.int .i64 0, .int .i64 0] (0, 0) _ rfl (op_end HX1.out).1 Try.underlying29 rfl (by kernel_rfl)) rfl ⟨rfl, (op_end HX1.out).2⟩
set_option maxHeartbeats 8000000 in
set_option maxRecDepth 100000 in
theorem hrsub_walk (k : Nat) (s how m e n f t M E er : Int) (w : World) (hrt : environref02_right.f k s how m e n f = some t) (hc : t ≠ 0 → M = 0 ∧ E = 0 ∧ er = t)
    (h0 : t = 0 → Ret 22 #[.int .i64 s, .int .i64 how, .agg #[.int .i64 m, .int .i64 e], .agg #[.int .i64 (wrap64 (-n)), .int .i64 f]] (.tuple #[.agg #[.int .i64 M, .int .i64 E], .int .i64 er])) :
    Calls Try.prog 24 #[.int .i64 s, .int .i64 how, .agg #[.int .i64 m, .int .i64 e], .agg #[.int .i64 n, .int .i64 f]] w fun en w' => en = .returned (.tuple #[.agg #[.int .i64 M, .int .i64 E], .int .i64 er]) ∧ Below w.heap.size w w' := by
  have hu := Try.underlying29
  have HRT := Aside0.mk hrt; have HC := Aside0.mk hc; have H0 := Aside0.mk h0
  clear hrt hc h0
  have HX := Aside0.mk (op_new0 w m e n f)
  go_enter Try.func24, Try.ntmps24
  go_wp2_with fail
  refine (environref02_right.calls k s how m e n f t _ HRT.out).mono ?_
  rintro e1 w1 ⟨rfl, hb⟩
  have HX1 := Aside0.mk (HX.out.next hb)
  clear hb HX
  obtain ⟨⟨x0, x1, y0, y1, z0, z1, f0, f1⟩, _⟩ := op_s HX1.out
  by_cases hc : t = 0
  · have HR := Aside0.mk (H0.out hc)
    subst hc
    go_wp2_with fail
    refine (at_w HR _).mono ?_
    rintro e1 w2 ⟨rfl, hb⟩
    have HX2 := Aside0.mk (HX1.out.next hb)
    clear hb HX1 x0 x1 y0 y1 z0 z1 f0 f1
    obtain ⟨⟨x0, x1, y0, y1, z0, z1, f0, f1⟩, _⟩ := op_s HX2.out
    go_wp2_with fail
    exact bodyPost_ret (results_ct rfl _ _ _ 29 #[.int .i64 M, .int .i64 E] (0, 0) _ rfl (op_end HX2.out).1 Try.underlying29 rfl (by kernel_rfl)) rfl ⟨rfl, (op_end HX2.out).2⟩
  · obtain ⟨rfl, rfl, rfl⟩ := HC.out hc
    have hk : (er == 0) = false := by rw [beq_eq_false_iff_ne]; exact hc
    have hk2 : (er != 0) = true := by rw [bne_iff_ne]; exact hc
    clear hc
    go_wp2_with fail
    exact bodyPost_ret (results_ct rfl _ _ _ 29 #[.int .i64 0, .int .i64 0] (0, 0) _ rfl (op_end HX1.out).1 Try.underlying29 rfl (by kernel_rfl)) rfl ⟨rfl, (op_end HX1.out).2⟩
theorem rmul_ret {s how m e n f D F c : Int} (hm : I64 m) (hn : I64 n) (h : mulS s how m e n f = (D, F, c)) : Ret 26 #[.int .i64 s, .int .i64 how, .agg #[.int .i64 m, .int .i64 e], .agg #[.int .i64 n, .int .i64 f]] (.tuple #[.agg #[.int .i64 D, .int .i64 F], .int .i64 c]) := by
  obtain ⟨k, hk⟩ := (rmul_is s how m e n f hm hn).rounds
  rw [h] at hk
  unfold environref02_Mul.f at hk
  obtain ⟨t, h1, hk⟩ := Option.bind_eq_some_iff.mp hk
  refine ret_b fun w => ?_
  by_cases ht : t = 0
  · rw [if_pos ht] at hk
    obtain ⟨A, h2, hk⟩ := Option.bind_eq_some_iff.mp hk
    obtain ⟨B, h3, hk⟩ := Option.bind_eq_some_iff.mp hk
    obtain ⟨P, h4, hk⟩ := Option.bind_eq_some_iff.mp hk
    obtain ⟨⟨M, E, er⟩, h5, hk⟩ := Option.bind_eq_some_iff.mp hk
    simp only [Option.some.injEq, Prod.mk.injEq] at hk
    obtain ⟨rfl, rfl, rfl⟩ := hk
    exact hrmul_walk k k k k k s how m e n f t _ _ _ _ A B P w h1 (fun h => absurd ht h) (fun _ => ⟨h2, h3, h4, w64r _, h5⟩)
  · rw [if_neg ht] at hk
    simp only [Option.some.injEq, Prod.mk.injEq] at hk
    obtain ⟨rfl, rfl, rfl⟩ := hk
    exact hrmul_walk k k k k k s how m e n f t 0 0 t 0 [] [] [] w h1 (fun _ => ⟨rfl, rfl, rfl⟩) (fun h => absurd h ht)
theorem rdiv_ret {s how m e n f D F c : Int} (hm : I64 m) (hn : I64 n) (h : divS s how m e n f = (D, F, c)) : Ret 28 #[.int .i64 s, .int .i64 how, .agg #[.int .i64 m, .int .i64 e], .agg #[.int .i64 n, .int .i64 f]] (.tuple #[.agg #[.int .i64 D, .int .i64 F], .int .i64 c]) := by
  obtain ⟨k, hk⟩ := (rdiv_is s how m e n f hm hn).rounds
  rw [h] at hk
  unfold environref02_Div.f at hk
  obtain ⟨t, h1, hk⟩ := Option.bind_eq_some_iff.mp hk
  refine ret_b fun w => ?_
  by_cases ht : t = 0
  · rw [if_pos ht] at hk
    by_cases hz : n = 0
    · rw [if_pos hz] at hk
      simp only [Option.some.injEq, Prod.mk.injEq] at hk
      obtain ⟨rfl, rfl, rfl⟩ := hk
      exact hrdiv_walk k k k k k s how m e n f t 0 0 11 0 0 [] [] [] [] [] w h1 (fun h => absurd ht h) (fun _ _ => ⟨rfl, rfl, rfl⟩) (fun _ h => absurd hz h)
    · rw [if_neg hz] at hk
      obtain ⟨A, h2, hk⟩ := Option.bind_eq_some_iff.mp hk
      obtain ⟨A2, h3, hk⟩ := Option.bind_eq_some_iff.mp hk
      obtain ⟨B, h4, hk⟩ := Option.bind_eq_some_iff.mp hk
      obtain ⟨⟨Q, R⟩, h5, hk⟩ := Option.bind_eq_some_iff.mp hk
      obtain ⟨⟨M, E, er⟩, h6, hk⟩ := Option.bind_eq_some_iff.mp hk
      simp only [Option.some.injEq, Prod.mk.injEq] at hk
      obtain ⟨rfl, rfl, rfl⟩ := hk
      have hl : (decide ((R.length : Int) > 0)) = decide (0 < R.length) := by simp
      exact hrdiv_walk k k k k k s how m e n f t _ _ _ _ _ A A2 B Q R w h1 (fun h => absurd ht h) (fun _ h => absurd h hz) (fun _ _ => ⟨h2, h3, h4, h5, w64r _, w64r _, hl ▸ h6⟩)
  · rw [if_neg ht] at hk
    simp only [Option.some.injEq, Prod.mk.injEq] at hk
    obtain ⟨rfl, rfl, rfl⟩ := hk
    exact hrdiv_walk k k k k k s how m e n f t 0 0 t 0 0 [] [] [] [] [] w h1 (fun _ => ⟨rfl, rfl, rfl⟩) (fun h => absurd h ht) (fun h => absurd h ht)
theorem radd_calls {k : Nat} {s how m e n f D F c : Int} (w : World) (hk : environref02_Add.f k s how m e n f = some (D, F, c)) : Calls Try.prog 22 #[.int .i64 s, .int .i64 how, .agg #[.int .i64 m, .int .i64 e], .agg #[.int .i64 n, .int .i64 f]] w fun en w' => en = .returned (.tuple #[.agg #[.int .i64 D, .int .i64 F], .int .i64 c]) ∧ Below w.heap.size w w' := by
  unfold environref02_Add.f at hk
  obtain ⟨t, h1, hk⟩ := Option.bind_eq_some_iff.mp hk
  by_cases ht : t = 0
  · rw [if_pos ht] at hk
    obtain ⟨⟨xn, xN, xe, xm⟩, h2, hk⟩ := Option.bind_eq_some_iff.mp hk
    obtain ⟨⟨yn, yN, ye, ym⟩, h3, hk⟩ := Option.bind_eq_some_iff.mp hk
    obtain ⟨⟨zn, zN, ze, zm⟩, h4, hk⟩ := Option.bind_eq_some_iff.mp hk
    obtain ⟨⟨M, E, er⟩, h5, hk⟩ := Option.bind_eq_some_iff.mp hk
    simp only [Option.some.injEq, Prod.mk.injEq] at hk
    obtain ⟨rfl, rfl, rfl⟩ := hk
    exact hradd_walk k k k k k s how m e n f t _ _ _ xe ye ze xn xm yn ym zn zm xN yN zN w h1 (fun h => absurd ht h) (fun _ => ⟨h2, h3, h4, h5⟩)
  · rw [if_neg ht] at hk
    simp only [Option.some.injEq, Prod.mk.injEq] at hk
    obtain ⟨rfl, rfl, rfl⟩ := hk
    exact hradd_walk k k k k k s how m e n f t 0 0 t 0 0 0 false false false false false false [] [] [] w h1 (fun _ => ⟨rfl, rfl, rfl⟩) (fun h => absurd h ht)
theorem radd_ret {s how m e n f D F c : Int} (hm : I64 m) (hn : I64 n) (h : addS s how m e n f = (D, F, c)) : Ret 22 #[.int .i64 s, .int .i64 how, .agg #[.int .i64 m, .int .i64 e], .agg #[.int .i64 n, .int .i64 f]] (.tuple #[.agg #[.int .i64 D, .int .i64 F], .int .i64 c]) := by
  obtain ⟨k, hk⟩ := (radd_is s how m e n f hm hn).rounds
  rw [h] at hk
  exact ret_b fun w => radd_calls w hk
theorem rsub_ret {s how m e n f D F c : Int} (hm : I64 m) (hn : I64 n) (h : subS s how m e n f = (D, F, c)) : Ret 24 #[.int .i64 s, .int .i64 how, .agg #[.int .i64 m, .int .i64 e], .agg #[.int .i64 n, .int .i64 f]] (.tuple #[.agg #[.int .i64 D, .int .i64 F], .int .i64 c]) := by
  obtain ⟨k, hk⟩ := (rsub_is s how m e n f hm hn).rounds
  rw [h] at hk
  unfold environref02_Sub.f at hk
  obtain ⟨t, h1, hk⟩ := Option.bind_eq_some_iff.mp hk
  refine ret_b fun w => ?_
  by_cases ht : t = 0
  · rw [if_pos ht] at hk
    obtain ⟨⟨M, E, er⟩, h5, hk⟩ := Option.bind_eq_some_iff.mp hk
    simp only [Option.some.injEq, Prod.mk.injEq] at hk
    obtain ⟨rfl, rfl, rfl⟩ := hk
    exact hrsub_walk k s how m e n f t _ _ _ w h1 (fun h => absurd ht h) (fun _ => ret_b fun w => radd_calls w h5)
  · rw [if_neg ht] at hk
    simp only [Option.some.injEq, Prod.mk.injEq] at hk
    obtain ⟨rfl, rfl, rfl⟩ := hk
    exact hrsub_walk k s how m e n f t 0 0 t w h1 (fun _ => ⟨rfl, rfl, rfl⟩) (fun h => absurd h ht)
theorem rsqrt_ret {s how m e D F c : Int} (hm : I64 m) (h : sqrtS s how m e = (D, F, c)) : Ret 30 #[.int .i64 s, .int .i64 how, .agg #[.int .i64 m, .int .i64 e]] (.tuple #[.agg #[.int .i64 D, .int .i64 F], .int .i64 c]) := by
  obtain ⟨k, hk⟩ := (rsqrt_is s how m e hm).rounds
  rw [h] at hk
  exact ret_b fun w => environref02_Sqrt.calls k s how m e D F c w hk
theorem rneg_ret {s m e D F c : Int} (hm : I64 m) (h : negS s m e = (D, F, c)) : Ret 32 #[.int .i64 s, .agg #[.int .i64 m, .int .i64 e]] (.tuple #[.agg #[.int .i64 D, .int .i64 F], .int .i64 c]) := by
  obtain ⟨k, hk⟩ := (rneg_is s m e hm).rounds
  rw [h] at hk
  exact ret_b fun w => environref02_Neg.calls k s m e D F c w hk
theorem rabs_ret {s m e D F c : Int} (hm : I64 m) (h : absS s m e = (D, F, c)) : Ret 34 #[.int .i64 s, .agg #[.int .i64 m, .int .i64 e]] (.tuple #[.agg #[.int .i64 D, .int .i64 F], .int .i64 c]) := by
  obtain ⟨k, hk⟩ := (rabs_is s m e hm).rounds
  rw [h] at hk
  exact ret_b fun w => environref02_Abs.calls k s m e D F c w hk
theorem realsOps_walk (s h xm xe ym ye : Int) (w : World) (_w0 : (Lit.int .i64 s).wf = true) (_w1 : (Lit.int .i64 h).wf = true) (w2 : (Lit.int .i64 xm).wf = true) (_w3 : (Lit.int .i64 xe).wf = true) (w4 : (Lit.int .i64 ym).wf = true) (_w5 : (Lit.int .i64 ye).wf = true) :
    Calls Try.prog 5 #[.agg #[.int .i64 s, .int .i64 h], .agg #[.int .i64 xm, .int .i64 xe], .agg #[.int .i64 ym, .int .i64 ye]] w fun e w' => e = .returned (.bool true) ∧ Below w.heap.size w w' := by
  have hx := wf64 w2; have hy := wf64 w4
  rcases h0 : addS s h xm xe ym ye with ⟨M0, E0, c0⟩
  rcases h1 : subS s h xm xe ym ye with ⟨M1, E1, c1⟩
  rcases h2 : mulS s h xm xe ym ye with ⟨M2, E2, c2⟩
  rcases h3 : divS s h xm xe ym ye with ⟨M3, E3, c3⟩
  rcases h4 : sqrtS s h xm xe with ⟨M4, E4, c4⟩
  rcases h5 : negS s xm xe with ⟨M5, E5, c5⟩
  rcases h6 : absS s xm xe with ⟨M6, E6, c6⟩
  exact ops_walk s h xm xe ym ye M0 E0 c0 M1 E1 c1 M2 E2 c2 M3 E3 c3 M4 E4 c4 M5 E5 c5 M6 E6 c6 w awake_ret (add_ret hx hy h0) (radd_ret hx hy h0) (sub_ret hx hy h1) (rsub_ret hx hy h1) (mul_ret hx hy h2) (rmul_ret hx hy h2) (div_ret hx hy h3) (rdiv_ret hx hy h3) (sqrt_ret hx h4) (rsqrt_ret hx h4) (neg_ret hx h5) (rneg_ret hx h5) (abs_ret hx h6) (rabs_ret hx h6)
end Go.Proofs.Ytamkjpjibkabaaa.PR
