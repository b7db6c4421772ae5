import Derived.Test.YtamkjpjibkabaaaPRgE
import Derived.Test.YtamkjpjibkabaaaPRHw
import Derived.Test.YtamkjpjibkabaaaPRhM
import Derived.Test.YtamkjpjibkabaaaPRgRh
namespace Go.Proofs.Ytamkjpjibkabaaa.PR
open Go.RowKit Go.Proofs.YtamkjpjibkabaaaW.PrintWords Go.Proofs.YtamkjpjibkabaaaW.PrintLast Go.Proofs.YtamkjpjibkabaaaW.PrintMore
set_option linter.unusedVariables false
set_option linter.unusedSimpArgs false
/-- the digits of a number, the last one first -/
def dl (n : Nat) : List Int := if h : n = 0 then [] else ((n % 10 : Nat) : Int) :: dl (n / 10)
decreasing_by omega
theorem dl_zero : dl 0 = [] := by unfold dl; simp
theorem dl_pos {n : Nat} (h : n ≠ 0) : dl n = ((n % 10 : Nat) : Int) :: dl (n / 10) := by rw [dl]; simp [h]
/-- the number that digits are -/
def vl : List Int → Nat | [] => 0 | d :: l => d.toNat + 10 * vl l
def Dg (l : List Int) : Prop := ∀ d ∈ l, 0 ≤ d ∧ d < 10
theorem Dg.nil : Dg [] := fun _ h => by cases h
theorem Dg.cons {d : Int} {l : List Int} (h0 : 0 ≤ d) (h1 : d < 10) (h : Dg l) : Dg (d :: l) := by
  intro x hx; rcases List.mem_cons.1 hx with rfl | hx
  · exact ⟨h0, h1⟩
  · exact h x hx
theorem Dg.tail {d : Int} {l : List Int} (h : Dg (d :: l)) : Dg l := fun x hx => h x (List.mem_cons_of_mem _ hx)
theorem Dg.head {d : Int} {l : List Int} (h : Dg (d :: l)) : 0 ≤ d ∧ d < 10 := h d (List.mem_cons_self ..)
theorem Dg.append {a b : List Int} (ha : Dg a) (hb : Dg b) : Dg (a ++ b) := by
  intro x hx; rcases List.mem_append.1 hx with h | h
  · exact ha x h
  · exact hb x h
theorem Dg.take {a : List Int} (ha : Dg a) (k : Nat) : Dg (a.take k) := fun x hx => ha x (List.mem_of_mem_take hx)
theorem Dg.drop {a : List Int} (ha : Dg a) (k : Nat) : Dg (a.drop k) := fun x hx => ha x (List.mem_of_mem_drop hx)
theorem vl_dl (n : Nat) : vl (dl n) = n := by
  induction n using Nat.strongRecOn with
  | ind n ih =>
    by_cases h : n = 0
    · subst h; rw [dl_zero]; rfl
    · rw [dl_pos h]; simp only [vl]; rw [ih (n / 10) (by omega)]; omega
theorem dg_dl (n : Nat) : Dg (dl n) := by
  induction n using Nat.strongRecOn with
  | ind n ih =>
    by_cases h : n = 0
    · subst h; rw [dl_zero]; exact Dg.nil
    · rw [dl_pos h]; exact Dg.cons (by omega) (by omega) (ih (n / 10) (by omega))
theorem len_dl (n : Nat) : (dl n).length = dg n := by
  induction n using Nat.strongRecOn with
  | ind n ih =>
    by_cases h : n = 0
    · subst h; rw [dl_zero, dg_zero]; rfl
    · rw [dl_pos h, dg_pos h, List.length_cons, ih (n / 10) (by omega)]
theorem vl_append (a b : List Int) : vl (a ++ b) = vl a + 10 ^ a.length * vl b := by
  induction a with
  | nil => simp [vl]
  | cons d a ih => simp only [List.cons_append, vl, ih, List.length_cons, Nat.pow_succ, Nat.mul_add]; rw [← Nat.mul_assoc, Nat.mul_comm 10 (10 ^ _)]; omega
/-- digits without a 0 at the end are those of their number -/
theorem dl_of {l : List Int} (h : Dg l) (hl : ∀ x, l.getLast? = some x → x ≠ 0) : l = dl (vl l) := by
  induction l with
  | nil => rw [vl, dl_zero]
  | cons d l ih =>
    have hd := h.head
    have hz : vl (d :: l) ≠ 0 := by
      intro h0
      simp only [vl] at h0
      have hd0 : d = 0 := by omega
      have hv0 : vl l = 0 := by omega
      cases l with
      | nil => exact hl d rfl hd0
      | cons e m =>
        have h' := ih h.tail (fun x hx => hl x (by rw [List.getLast?_cons_cons]; exact hx))
        rw [hv0, dl_zero] at h'; cases h'
    rw [dl_pos hz]
    have e1 : vl (d :: l) % 10 = d.toNat := by simp only [vl]; omega
    have e2 : vl (d :: l) / 10 = vl l := by simp only [vl]; omega
    rw [e1, e2]
    cases l with
    | nil => simp [vl, dl_zero]; omega
    | cons e m =>
      rw [← ih h.tail (fun x hx => hl x (by rw [List.getLast?_cons_cons]; exact hx))]
      congr 1; omega
theorem dl_drop (k n : Nat) : (dl n).drop k = dl (n / 10 ^ k) := by
  induction k generalizing n with
  | zero => simp
  | succ k ih =>
    by_cases h : n = 0
    · subst h; simp [dl_zero]
    · rw [dl_pos h, List.drop_succ_cons, ih, Nat.div_div_eq_div_mul, Nat.pow_succ, Nat.mul_comm 10]
theorem vl_take (k n : Nat) : vl ((dl n).take k) = n % 10 ^ k := by
  induction k generalizing n with
  | zero => simp [vl, Nat.mod_one]
  | succ k ih =>
    by_cases h : n = 0
    · subst h; simp [dl_zero, vl]
    · rw [dl_pos h, List.take_succ_cons, vl, ih, Nat.pow_succ, Nat.mul_comm (10 ^ k), Nat.mod_mul]
      omega
theorem dl_get {n i : Nat} (h : i < (dl n).length) : (dl n)[i] = ((n / 10 ^ i % 10 : Nat) : Int) := by
  have e := dl_drop i n
  rw [List.drop_eq_getElem_cons h] at e
  by_cases hz : n / 10 ^ i = 0
  · rw [hz, dl_zero] at e; cases e
  · rw [dl_pos hz] at e; exact (List.cons.inj e).1
theorem dl_len_le {n i : Nat} (h : (dl n).length ≤ i) : n / 10 ^ i = 0 := by
  have e := dl_drop i n
  rw [List.drop_eq_nil_of_le h] at e
  have := vl_dl (n / 10 ^ i); rw [← e] at this; exact this.symm
/-- the value of digits, one more at the end -/
theorem vl_snoc (l : List Int) (d : Int) : vl (l ++ [d]) = vl l + 10 ^ l.length * d.toNat := by rw [vl_append]; simp [vl]
theorem dg_one : dg 1 = 1 := by rw [dg_pos (by decide), show 1 / 10 = 0 from rfl, dg_zero]
theorem p10 (k : Nat) : 0 < 10 ^ k := Nat.pow_pos (by decide)
theorem dg_le_iff {n k : Nat} : dg n ≤ k ↔ n < 10 ^ k := by
  constructor
  · intro h; exact Nat.lt_of_lt_of_le (dg_lt n) (Nat.pow_le_pow_right (by decide) h)
  · intro h
    by_cases hz : n = 0
    · subst hz; rw [dg_zero]; omega
    · have := Nat.lt_of_le_of_lt (dg_le hz) h
      have := (Nat.pow_lt_pow_iff_right (show 1 < 10 by decide)).1 this
      omega
theorem dg_mul {n : Nat} (h : n ≠ 0) (k : Nat) : dg (n * 10 ^ k) = dg n + k := by
  have hd : dg n ≠ 0 := by have := dg_pos h; omega
  refine dg_is ?_ (.inr ?_)
  · rw [Nat.pow_add]; exact Nat.mul_lt_mul_of_pos_right (dg_lt n) (p10 k)
  · have : dg n + k - 1 = dg n - 1 + k := by omega
    rw [this, Nat.pow_add]; exact Nat.mul_le_mul_right _ (dg_le h)
theorem dg_add {n k s : Nat} (h : n ≠ 0) (hs : s < 10 ^ k) : dg (n * 10 ^ k + s) = dg n + k := by
  have hd : dg n ≠ 0 := by have := dg_pos h; omega
  refine dg_is ?_ (.inr ?_)
  · rw [Nat.pow_add]
    have h1 : (n + 1) * 10 ^ k ≤ 10 ^ dg n * 10 ^ k := Nat.mul_le_mul_right _ (dg_lt n)
    rw [Nat.add_mul, Nat.one_mul] at h1; omega
  · have : dg n + k - 1 = dg n - 1 + k := by omega
    rw [this, Nat.pow_add]; have := Nat.mul_le_mul_right (10 ^ k) (dg_le h); omega
theorem dg_div (n k : Nat) : dg (n / 10 ^ k) = dg n - k := by
  by_cases hz : n / 10 ^ k = 0
  · rw [hz, dg_zero]
    have : n < 10 ^ k := by
      rcases Nat.div_eq_zero_iff.1 hz with h | h
      · have := p10 k; omega
      · exact h
    have := dg_le_iff.2 this; omega
  · have e := Nat.div_add_mod n (10 ^ k)
    have hm := Nat.mod_lt n (p10 k)
    have := dg_add hz hm
    rw [Nat.mul_comm] at e
    rw [e] at this; omega
/-- how what is dropped compares to a half -/
def sdS (r m : Nat) (more : Bool) : Int := if r = m - r then (if more = true then 1 else 0) else if r < m - r then -1 else 1
/-- d digits dropped -/
def cutG (n d : Nat) (more : Bool) : Nat × Int × Bool := if d = 0 then (n, -1, more) else (n / 10 ^ d, sdS (n % 10 ^ d) (10 ^ d) more, more || decide (n % 10 ^ d ≠ 0))
def awayS (how : Int) (neg odd : Bool) (half : Int) (inexact : Bool) : Bool := if how = 0 then decide (half > 0) || (decide (half = 0) && odd) else if how = 1 then !neg && inexact else if how = 2 then neg && inexact else false
/-- the zeros at the end go over to the exponent -/
def strip (n : Nat) (e : Int) : Nat × Int := if h : n = 0 then (0, 0) else if n % 10 = 0 then strip (n / 10) (e + 1) else (n, e)
decreasing_by omega
def sgn (neg : Bool) (n : Nat) : Int := if neg = true then -(n : Int) else n
def real (neg : Bool) (x : Nat × Int) : (Int × Int) × Int := ((sgn neg x.1, x.2), 0)
def fin (p : Nat) (how : Int) (neg : Bool) (q : Nat) (t : Int) : (Int × Int) × Int :=
  if q = 0 then ((0, 0), 0) else if dg q + t > p + 400 then (if how = 0 ∨ how = 1 ∧ neg = false ∨ how = 2 ∧ neg = true then ((0, 0), 11) else real neg (10 ^ p - 1, 400)) else real neg (strip q t)
def dropS (p n : Nat) (e : Int) : Nat := max (dg n - p) (-400 - e).toNat
def up (how : Int) (neg : Bool) (c : Nat × Int × Bool) : Nat := c.1 + if awayS how neg (decide (c.1 % 2 = 1)) c.2.1 c.2.2 = true then 1 else 0
/-- a number rounded to p digits -/
def rnd (p : Nat) (how : Int) (neg : Bool) (n : Nat) (e : Int) (more : Bool) : (Int × Int) × Int := fin p how neg (up how neg (cutG n (dropS p n e) more)) (e + dropS p n e)
theorem strip_mul (n : Nat) (e : Int) (k : Nat) : strip (n * 10 ^ k) (e - k) = strip n e := by
  by_cases hz : n = 0
  · subst hz; rw [Nat.zero_mul]; unfold strip; simp
  · induction k generalizing e with
    | zero => simp
    | succ k ih =>
      rw [strip]
      have h0 : n * 10 ^ (k + 1) ≠ 0 := Nat.mul_ne_zero hz (by have := p10 (k + 1); omega)
      have h1 : n * 10 ^ (k + 1) % 10 = 0 := by rw [Nat.pow_succ, ← Nat.mul_assoc]; exact Nat.mul_mod_left _ _
      have h2 : n * 10 ^ (k + 1) / 10 = n * 10 ^ k := by rw [Nat.pow_succ, ← Nat.mul_assoc]; exact Nat.mul_div_cancel _ (by decide)
      rw [dif_neg h0, if_pos h1, h2, show e - ((k + 1 : Nat) : Int) + 1 = e - k by omega]
      exact ih e
theorem strip_ten (p : Nat) (t : Int) : strip (10 ^ p) t = (1, t + p) := by
  have h := strip_mul 1 (t + p) p
  rw [Nat.one_mul, show t + p - p = t by omega] at h
  rw [h]; unfold strip; simp
/-- the sticky rule: what stands behind the digits that are kept and the first one that is dropped counts only as more -/
theorem cut_sticky (n k s d : Nat) (more : Bool) (hs : s < 10 ^ k) (hd : d ≠ 0) : cutG (n * 10 ^ k + s) (d + k) more = cutG n d (more || decide (s ≠ 0)) := by
  unfold cutG
  rw [if_neg (by omega), if_neg hd]
  have hk := p10 k
  have hdp := p10 d
  have e1 : (n * 10 ^ k + s) / 10 ^ (d + k) = n / 10 ^ d := by
    rw [Nat.pow_add, Nat.mul_comm (10 ^ d), ← Nat.div_div_eq_div_mul, Nat.mul_comm n, Nat.mul_add_div hk, Nat.div_eq_of_lt hs, Nat.add_zero]
  have e2 : (n * 10 ^ k + s) % 10 ^ (d + k) = n % 10 ^ d * 10 ^ k + s := by
    rw [Nat.pow_add, Nat.mul_comm (10 ^ d), Nat.mod_mul, Nat.mul_comm n, Nat.mul_add_mod, Nat.mod_eq_of_lt hs, Nat.mul_add_div hk, Nat.div_eq_of_lt hs, Nat.add_zero, Nat.mul_comm (10 ^ k)]; omega
  rw [e1, e2]
  generalize hr : n % 10 ^ d = r
  have hr1 : r < 10 ^ d := by rw [← hr]; exact Nat.mod_lt _ hdp
  have e3 : 10 ^ (d + k) = 10 ^ d * 10 ^ k := Nat.pow_add ..
  obtain ⟨m, hm⟩ : ∃ m, 10 ^ d = 2 * m := ⟨5 * 10 ^ (d - 1), by
    have : d = d - 1 + 1 := by omega
    rw [this, Nat.pow_succ, Nat.add_sub_cancel]; omega⟩
  rw [e3, hm]
  rw [hm] at hr1
  generalize 10 ^ k = K at *
  congr 2
  · unfold sdS
    -- compare r with m
    rcases Nat.lt_trichotomy r m with h | h | h
    · have a1 : r * K + K ≤ m * K := by rw [← Nat.succ_mul]; exact Nat.mul_le_mul_right _ h
      have a2 : 2 * m * K = m * K + m * K := by rw [Nat.mul_assoc]; omega
      rw [a2]
      rw [if_neg (by omega), if_pos (by omega), if_neg (by omega), if_pos (by omega)]
    · subst h
      have a2 : 2 * r * K = r * K + r * K := by rw [Nat.mul_assoc]; omega
      rw [a2]
      by_cases hz : s = 0
      · subst hz; rw [if_pos (by omega), if_pos (by omega : r = 2 * r - r)]; simp
      · rw [if_neg (by omega), if_neg (by omega), if_pos (by omega : r = 2 * r - r)]; simp [hz]
    · have a1 : m * K + K ≤ r * K := by rw [← Nat.succ_mul]; exact Nat.mul_le_mul_right _ h
      have a2 : 2 * m * K = m * K + m * K := by rw [Nat.mul_assoc]; omega
      rw [a2]
      rw [if_neg (by omega), if_neg (by omega), if_neg (by omega), if_neg (by omega)]
  · have : (r * K + s ≠ 0) ↔ (s ≠ 0 ∨ r ≠ 0) := by
      constructor
      · intro h; by_cases hs0 : s = 0
        · right; rintro rfl; apply h; rw [hs0]; simp
        · exact .inl hs0
      · rintro (h | h)
        · omega
        · have := Nat.mul_pos (Nat.pos_of_ne_zero h) hk; omega
    have h3 : decide (r * K + s ≠ 0) = (decide (s ≠ 0) || decide (r ≠ 0)) := by rw [← Bool.decide_or, decide_eq_decide]; exact this
    rw [h3, Bool.or_assoc]
theorem rnd_sticky (p : Nat) (how : Int) (neg : Bool) (n : Nat) (e : Int) (k s : Nat) (more : Bool) (hs : s < 10 ^ k) (hn : dropS p n e ≠ 0) (hz : n ≠ 0) :
    rnd p how neg (n * 10 ^ k + s) (e - k) more = rnd p how neg n e (more || decide (s ≠ 0)) := by
  unfold rnd
  have hd : dropS p (n * 10 ^ k + s) (e - k) = dropS p n e + k := by
    unfold dropS at *; rw [dg_add hz hs]; omega
  rw [hd, cut_sticky n k s _ more hs hn]
  congr 1; omega
theorem cut_exact (n k : Nat) (d : Nat) (h : d ≤ k) : cutG (n * 10 ^ k) d false = (n * 10 ^ (k - d), -1, false) := by
  unfold cutG
  split
  · rename_i hd; subst hd; simp
  · have e : 10 ^ k = 10 ^ (k - d) * 10 ^ d := by rw [← Nat.pow_add]; congr 1; omega
    have hp := p10 d
    rw [e, ← Nat.mul_assoc, Nat.mul_mod_left, Nat.mul_div_cancel _ hp]
    unfold sdS; rw [if_neg (by omega), if_pos (by omega)]; simp
theorem up_exact (how : Int) (neg : Bool) (q : Nat) : up how neg (q, -1, false) = q := by
  unfold up awayS; simp
theorem up_le (how : Int) (neg : Bool) (n d : Nat) (more : Bool) : n / 10 ^ d ≤ up how neg (cutG n d more) ∧ up how neg (cutG n d more) ≤ n / 10 ^ d + 1 := by
  unfold up cutG
  split
  · rename_i h; subst h; rw [Nat.pow_zero, Nat.div_one]; simp only; split <;> omega
  · simp only; split <;> omega
theorem drop_lt (p n : Nat) (e : Int) : n / 10 ^ dropS p n e < 10 ^ p := by
  rw [← dg_le_iff, dg_div]; unfold dropS; omega
theorem up_lt (p : Nat) (how : Int) (neg : Bool) (n : Nat) (e : Int) (more : Bool) : up how neg (cutG n (dropS p n e) more) ≤ 10 ^ p := by
  have := up_le how neg n (dropS p n e) more
  have := drop_lt p n e
  omega
/-- the end of the rounding as the program does it -/
def finP (p : Nat) (how : Int) (neg : Bool) (q : Nat) (t : Int) : (Int × Int) × Int :=
  let q1 := if dg q > p then q / 10 else q
  let t1 := if dg q > p then t + 1 else t
  if q1 = 0 then ((0, 0), 0) else if dg q1 + max (t1 - 400) 0 > p then (if how = 0 ∨ how = 1 ∧ neg = false ∨ how = 2 ∧ neg = true then ((0, 0), 11) else real neg (10 ^ p - 1, 400)) else real neg (strip q1 t1)
theorem finP_is {p : Nat} (hp : p ≠ 0) (how : Int) (neg : Bool) {q : Nat} (hq : q ≤ 10 ^ p) (t : Int) : finP p how neg q t = fin p how neg q t := by
  unfold finP fin
  by_cases h : dg q > p
  · have h1 : ¬ q < 10 ^ p := fun h' => by have := dg_le_iff.2 h'; omega
    obtain rfl : q = 10 ^ p := by omega
    have e1 : dg (10 ^ p) = p + 1 := by have := dg_mul (n := 1) (by decide) p; rw [Nat.one_mul] at this; rw [this, dg_one]; omega
    have e2 : 10 ^ p / 10 = 10 ^ (p - 1) := by
      have : p = p - 1 + 1 := by omega
      rw [this, Nat.pow_succ, Nat.add_sub_cancel]; omega
    have e3 : dg (10 ^ (p - 1)) = p := by
      have := dg_mul (n := 1) (by decide) (p - 1); rw [Nat.one_mul] at this; rw [this, dg_one]; omega
    have z1 := p10 (p - 1)
    have z2 := p10 p
    simp only [if_pos h, e2]
    rw [if_neg (Nat.ne_of_gt z1), if_neg (Nat.ne_of_gt z2), e1, e3, strip_ten, strip_ten]
    have e4 : t + 1 + ((p - 1 : Nat) : Int) = t + p := by omega
    rw [e4]
    congr 1
    simp only [eq_iff_iff]; omega
  · simp only [if_neg h]
    by_cases hz : q = 0
    · rw [if_pos hz, if_pos hz]
    · rw [if_neg hz, if_neg hz]
      congr 1
      simp only [eq_iff_iff]; omega
/-- a valid number -/
structure Ok (p n : Nat) (e : Int) : Prop where
  z : n = 0 → e = 0
  t : n ≠ 0 → n % 10 ≠ 0
  d : dg n ≤ p
  l : -400 ≤ e
  h : e + dg n ≤ p + 400
theorem strip_ok {n : Nat} {e : Int} (h : n = 0 → e = 0) (h2 : n ≠ 0 → n % 10 ≠ 0) : strip n e = (n, e) := by
  unfold strip
  by_cases hz : n = 0
  · rw [dif_pos hz, hz, h hz]
  · rw [dif_neg hz, if_neg (h2 hz)]
theorem strip_val (n : Nat) (e : Int) (h : n ≠ 0) : ∃ k : Nat, n = (strip n e).1 * 10 ^ k ∧ (strip n e).2 = e + k ∧ (strip n e).1 % 10 ≠ 0 := by
  induction n using Nat.strongRecOn generalizing e with
  | ind n ih =>
    rw [strip, dif_neg h]
    by_cases h1 : n % 10 = 0
    · rw [if_pos h1]
      obtain ⟨k, a, b, c⟩ := ih (n / 10) (by omega) (e + 1) (by omega)
      refine ⟨k + 1, ?_, by rw [b]; omega, c⟩
      rw [Nat.pow_succ, ← Nat.mul_assoc, ← a]; omega
    · rw [if_neg h1]; exact ⟨0, by simp, by simp, h1⟩
theorem strip_is_ok {p : Nat} {q : Nat} {t : Int} (h : q ≠ 0) (hq : q ≤ 10 ^ p) (hp : p ≠ 0) (ht : -400 ≤ t) (hd : dg q + t ≤ p + 400) : Ok p (strip q t).1 (strip q t).2 := by
  obtain ⟨k, a, b, c⟩ := strip_val q t h
  have hz : (strip q t).1 ≠ 0 := by intro h0; rw [h0] at c; exact c rfl
  have hdg : dg q = dg (strip q t).1 + k := by rw [← dg_mul hz k, ← a]
  refine ⟨fun h0 => absurd h0 hz, fun _ => c, ?_, by rw [b]; omega, by rw [b]; omega⟩
  by_cases hk : k = 0
  · by_cases h1 : q = 10 ^ p
    · have h2 : q % 10 = 0 := by
        have : p = p - 1 + 1 := by omega
        rw [h1, this, Nat.pow_succ]; omega
      subst hk; rw [Nat.pow_zero, Nat.mul_one] at a; rw [← a] at c; exact absurd h2 c
    · have := dg_le_iff.2 (show q < 10 ^ p by omega); omega
  · have : dg q ≤ p + 1 := by
      rw [dg_le_iff, Nat.pow_succ]; have := p10 p; omega
    omega
theorem x64 {n : Int} (h : -9223372036854775808 ≤ n) (h' : n ≤ 9223372036854775807) : wrap64 n = n := by
  unfold wrap64; omega
theorem rd_dl {n i : Nat} (h : i < (dl n).length) : rd (dl n) (i : Int) = ((n / 10 ^ i % 10 : Nat) : Int) := by
  unfold rd; rw [Int.toNat_natCast, List.getD_eq_getElem?_getD, List.getElem?_eq_getElem h]; exact dl_get h
theorem rd_nat (l : List Int) (i : Nat) : rd l (i : Int) = l.getD i 0 := by unfold rd; rw [Int.toNat_natCast]
theorem trim_l0 : ∀ (n : Nat) (l : List Int), l.length = n → n ≤ 1000000 → Dg l → Ev (fun k => environref02_trim.l0 k l) (dl (vl l)) := by
  intro n
  induction n with
  | zero =>
    intro l hl _ _
    obtain rfl : l = [] := List.eq_nil_of_length_eq_zero hl
    refine Ev.step (f := fun _ => some []) (fun k => ?_) (by rw [vl, dl_zero]; exact Ev.now _)
    simp only [environref02_trim.l0]; rw [if_neg (by simp)]
  | succ n ih =>
    intro l hl hn hd
    have hw : Aside0 (wrap64 ((l.length : Int) - 1) = (n : Int)) := ⟨by rw [x64 (by omega) (by omega)]; omega⟩
    have hlast : l.getLast? = some (l[n]'(by omega)) := by rw [List.getLast?_eq_getElem?, List.getElem?_eq_getElem (by omega)]; congr 1; simp [hl]
    have hrd : rd l (n : Int) = l[n]'(by omega) := by rw [rd_nat, List.getD_eq_getElem?_getD, List.getElem?_eq_getElem (by omega)]; rfl
    by_cases h0 : l[n]'(by omega) = 0
    · have ht : vl l = vl (l.take n) := by
        have e : l = l.take n ++ [0] := by
          have := List.take_succ_eq_append_getElem (l := l) (i := n) (by omega)
          rw [List.take_of_length_le (by omega), h0] at this; exact this
        have h2 := congrArg vl e
        rw [vl_snoc] at h2; rw [h2]; simp
      refine Ev.step (f := fun k => environref02_trim.l0 k (l.take n)) (fun k => ?_) (by rw [ht]; exact ih (l.take n) (by rw [List.length_take]; omega) (by omega) (hd.take n))
      simp only [environref02_trim.l0]; rw [hw.out, hrd, if_pos (by omega), if_pos (by omega), if_pos (by omega), if_pos h0, if_pos (by omega), Int.toNat_natCast]
    · refine Ev.step (f := fun _ => some l) (fun k => ?_) ?_
      · simp only [environref02_trim.l0]; rw [hw.out, hrd, if_pos (by omega), if_pos (by omega), if_pos (by omega), if_neg h0]
      · rw [← dl_of hd (fun x hx => by rw [hlast] at hx; cases hx; exact h0)]; exact Ev.now _
theorem trim_is {l : List Int} (hl : l.length ≤ 1000000) (hd : Dg l) : Ev (fun k => environref02_trim.f k l) (dl (vl l)) := trim_l0 _ l rfl hl hd
theorem of_l0 : ∀ (n : Nat) (m : Int) (x : List Int), m.natAbs = n → n ≤ 9223372036854775808 → m ≤ 9223372036854775807 → x.length + dg n ≤ 1000000 → Ev (fun k => environref02_Of.l0 k m x) (x ++ dl n) := by
  intro n
  induction n using Nat.strongRecOn with
  | ind n ih =>
    intro m x hm hn hn2 hx
    by_cases h0 : m = 0
    · subst h0
      obtain rfl : n = 0 := by omega
      rw [dl_zero, List.append_nil]
      refine Ev.step (f := fun _ => some x) (fun k => ?_) (Ev.now _)
      simp only [environref02_Of.l0]; rw [if_pos trivial]
    · have hz : n ≠ 0 := by omega
      have hdp := dg_pos hz
      have e1 : Int.tdiv m 10 = if m < 0 then -((n / 10 : Nat) : Int) else ((n / 10 : Nat) : Int) := by
        split
        · have : m = -((n : Nat) : Int) := by omega
          rw [this, Int.neg_tdiv, Int.tdiv_eq_ediv_of_nonneg (by omega)]; omega
        · have : m = ((n : Nat) : Int) := by omega
          rw [this, Int.tdiv_eq_ediv_of_nonneg (by omega)]; omega
      have e2 : Int.tmod m 10 = if m < 0 then -((n % 10 : Nat) : Int) else ((n % 10 : Nat) : Int) := by
        split
        · have : m = -((n : Nat) : Int) := by omega
          rw [this, Int.neg_tmod, Int.tmod_eq_emod_of_nonneg (by omega)]; omega
        · have : m = ((n : Nat) : Int) := by omega
          rw [this, Int.tmod_eq_emod_of_nonneg (by omega)]; omega
      have hw : Aside0 (wrap64 (Int.tdiv m 10) = Int.tdiv m 10) := ⟨x64 (by rw [e1]; split <;> omega) (by rw [e1]; split <;> omega)⟩
      have hr : x ++ dl n = (x ++ [((n % 10 : Nat) : Int)]) ++ dl (n / 10) := by rw [dl_pos hz, List.append_assoc]; rfl
      rw [hr]
      refine Ev.step (f := fun k => environref02_Of.l0 k (Int.tdiv m 10) (x ++ [((n % 10 : Nat) : Int)])) (fun k => ?_) (ih (n / 10) (by omega) _ _ (by rw [e1]; split <;> omega) (by omega) (by rw [e1]; split <;> omega) (by rw [List.length_append, List.length_singleton]; omega))
      simp only [environref02_Of.l0]
      rw [if_neg h0, hw.out]
      by_cases hneg : Int.tmod m 10 < 0
      · rw [if_pos hneg, if_pos (by omega)]
        rw [e2] at hneg ⊢
        split at hneg
        · rename_i hm0; rw [if_pos hm0, Int.neg_neg, x64 (by omega) (by omega)]
        · omega
      · rw [if_neg hneg, if_pos (by omega)]
        rw [e2] at hneg ⊢
        split at hneg
        · rename_i hm0; rw [if_pos hm0]; have : n % 10 = 0 := by omega
          rw [this]; rfl
        · rename_i hm0; rw [if_neg hm0]
theorem dg_small {n : Nat} (h : n ≤ 340282366920938463463374607431768211456) : dg n ≤ 39 := by
  have : n < 10 ^ 39 := by omega
  by_cases hz : n = 0
  · subst hz; rw [dg_zero]; omega
  · have := Nat.lt_of_le_of_lt (dg_le hz) this
    have := (Nat.pow_lt_pow_iff_right (show 1 < 10 by decide)).1 this
    omega
theorem of_is {m : Int} (h : -9223372036854775808 ≤ m) (h' : m ≤ 9223372036854775807) : Ev (fun k => environref02_Of.f k m) (dl m.natAbs) := by
  have := dg_small (n := m.natAbs) (by omega)
  have h := of_l0 m.natAbs m [] rfl (by omega) h' (by simp; omega)
  rw [List.nil_append] at h; exact h
def cmp (a b : Nat) : Int := if a = b then 0 else if a < b then -1 else 1
theorem cmp_l0 (a b : Nat) (hl : (dl a).length = (dl b).length) (hs : (dl a).length ≤ 1000000) : ∀ j : Nat, j ≤ (dl a).length → a / 10 ^ j = b / 10 ^ j → Ev (fun k => environref02_compare.l0 k (dl a) (dl b) ((j : Int) - 1)) (cmp a b) := by
  intro j
  induction j with
  | zero =>
    intro _ h
    rw [Nat.pow_zero, Nat.div_one, Nat.div_one] at h
    subst h
    refine Ev.step (f := fun _ => some 0) (fun k => ?_) (by unfold cmp; rw [if_pos rfl]; exact Ev.now _)
    simp only [environref02_compare.l0]; rw [if_neg (by omega)]
  | succ j ih =>
    intro hj h
    have e : ((j + 1 : Nat) : Int) - 1 = (j : Int) := by omega
    rw [e]
    have ra := rd_dl (n := a) (i := j) (by omega)
    have rb := rd_dl (n := b) (i := j) (by omega)
    rw [Nat.pow_succ, ← Nat.div_div_eq_div_mul, ← Nat.div_div_eq_div_mul] at h
    generalize hA : a / 10 ^ j = A at *
    generalize hB : b / 10 ^ j = B at *
    by_cases h1 : A % 10 < B % 10
    · have hab : a < b := by
        have : A < B := by omega
        rw [← hA, ← hB] at this
        exact Nat.lt_of_not_le fun hle => by have := Nat.div_le_div_right (c := 10 ^ j) hle; omega
      refine Ev.step (f := fun _ => some (-1)) (fun k => ?_) (by unfold cmp; rw [if_neg (by omega), if_pos hab]; exact Ev.now _)
      simp only [environref02_compare.l0]; rw [if_pos (by omega), if_pos (by omega), if_pos (by omega), if_pos (by omega), ra, rb, if_pos (by omega)]
    · by_cases h2 : B % 10 < A % 10
      · have hab : b < a := by
          have : B < A := by omega
          rw [← hA, ← hB] at this
          exact Nat.lt_of_not_le fun hle => by have := Nat.div_le_div_right (c := 10 ^ j) hle; omega
        refine Ev.step (f := fun _ => some 1) (fun k => ?_) (by unfold cmp; rw [if_neg (by omega), if_neg (by omega)]; exact Ev.now _)
        simp only [environref02_compare.l0]; rw [if_pos (by omega), if_pos (by omega), if_pos (by omega), if_pos (by omega), ra, rb, if_neg (by omega), if_pos (by omega)]
      · refine Ev.step (f := fun k => environref02_compare.l0 k (dl a) (dl b) ((j : Int) - 1)) (fun k => ?_) (ih (by omega) (by omega))
        simp only [environref02_compare.l0]; rw [if_pos (by omega), if_pos (by omega), if_pos (by omega), if_pos (by omega), ra, rb, if_neg (by omega), if_neg (by omega), x64 (by omega) (by omega)]
theorem dl_lt_of_len {a b : Nat} (h : (dl a).length < (dl b).length) : a < b := by
  have h1 := dl_len_le (n := a) (Nat.le_refl _)
  have hb : b ≠ 0 := by rintro rfl; rw [dl_zero] at h; simp at h
  have h2 : b / 10 ^ (dl a).length ≠ 0 := by
    intro h0
    have := dl_drop (dl a).length b
    rw [h0, dl_zero] at this
    have := congrArg List.length this
    rw [List.length_drop, List.length_nil] at this; omega
  refine Nat.lt_of_not_le fun hle => ?_
  have := Nat.div_le_div_right (c := 10 ^ (dl a).length) hle
  rw [h1] at this; exact h2 (Nat.le_zero.1 this)
theorem cmp_is' {a b : Nat} (ha : (dl a).length ≤ 1000000) (hb : (dl b).length ≤ 1000000) : Ev (fun k => environref02_compare.f k (dl a) (dl b)) (cmp a b) := by
  by_cases hl : (dl a).length = (dl b).length
  · have h := cmp_l0 a b hl ha (dl a).length (Nat.le_refl _) (by rw [dl_len_le (Nat.le_refl _), dl_len_le (by omega)])
    refine Ev.congr (fun k => ?_) h
    unfold environref02_compare.f
    rw [if_pos (by omega), x64 (by omega) (by omega)]
  · by_cases h2 : (dl a).length < (dl b).length
    · have := dl_lt_of_len h2
      refine Ev.congr (f := fun _ => some (-1)) (fun k => ?_) (by unfold cmp; rw [if_neg (by omega), if_pos this]; exact Ev.now _)
      unfold environref02_compare.f; rw [if_neg (by omega), if_pos (by omega)]
    · have := dl_lt_of_len (a := b) (b := a) (by omega)
      refine Ev.congr (f := fun _ => some 1) (fun k => ?_) (by unfold cmp; rw [if_neg (by omega), if_neg (by omega)]; exact Ev.now _)
      unfold environref02_compare.f; rw [if_neg (by omega), if_neg (by omega)]
theorem dl_lt_iff {a i : Nat} : i < (dl a).length ↔ a / 10 ^ i ≠ 0 := by
  constructor
  · intro h h0
    have := dl_drop i a
    rw [h0, dl_zero] at this
    have := congrArg List.length this
    rw [List.length_drop, List.length_nil] at this; omega
  · intro h
    exact Nat.lt_of_not_le fun hle => h (dl_len_le hle)
theorem div_succ (a i : Nat) : a / 10 ^ (i + 1) = a / 10 ^ i / 10 := by rw [Nat.pow_succ, Nat.div_div_eq_div_mul]
theorem plus_l0 (a b : Nat) (ha : (dl a).length ≤ 1000000) (hb : (dl b).length ≤ 1000000) : ∀ (A : Nat) (i c : Nat) (out : List Int), A = c + a / 10 ^ i + b / 10 ^ i → c ≤ 9 → Dg out → out.length = i → i + dg A ≤ 900000 →
    Ev (fun k => environref02_plus.l0 k (dl a) (dl b) out (c : Int) (i : Int)) (dl (vl out + 10 ^ i * A)) := by
  intro A
  induction A using Nat.strongRecOn with
  | ind A ih =>
    intro i c out hA hc hd hi hs
    have ia := Aside0.mk (dl_lt_iff (a := a) (i := i))
    have ib := Aside0.mk (dl_lt_iff (a := b) (i := i))
    have sa := Aside0.mk (div_succ a i)
    have sb := Aside0.mk (div_succ b i)
    have rda := Aside0.mk (rd_dl (n := a) (i := i))
    have rdb := Aside0.mk (rd_dl (n := b) (i := i))
    generalize a / 10 ^ i = qa at *
    generalize b / 10 ^ i = qb at *
    have esum : Aside0 (∀ v : Nat, v + 10 ^ i * (A % 10) + 10 ^ (i + 1) * (A / 10) = v + 10 ^ i * A) := ⟨by
      intro v
      rw [Nat.pow_succ, Nat.mul_assoc, Nat.add_assoc, ← Nat.mul_add]; congr 2; omega⟩
    by_cases hz : A = 0
    · have z1 : ¬ i < (dl a).length := by rw [ia.out]; omega
      have z2 : ¬ i < (dl b).length := by rw [ib.out]; omega
      obtain rfl : c = 0 := by omega
      refine Ev.step (f := fun k => environref02_plus.j1 k (dl a) (dl b) out 0 i false) (fun k => ?_) ?_
      · simp only [environref02_plus.l0]; rw [if_neg (by omega), if_neg (by omega)]; rfl
      refine Ev.step (f := fun k => (environref02_trim.f k out).bind fun t => some t) (fun k => ?_) ?_
      · simp only [environref02_plus.j1]; rw [if_neg (by simp)]
      rw [hz, Nat.mul_zero, Nat.add_zero]
      exact Ev.bind (trim_is (by omega) hd) (Ev.now _)
    · have hp := dg_pos hz
      have go : Ev (fun k => environref02_plus.l0 k (dl a) (dl b) (out ++ [((A % 10 : Nat) : Int)]) (((c + qa % 10 + qb % 10) / 10 : Nat) : Int) ((i + 1 : Nat) : Int)) (dl (vl out + 10 ^ i * A)) := by
        have h := ih (A / 10) (by omega) (i + 1) ((c + qa % 10 + qb % 10) / 10) (out ++ [((A % 10 : Nat) : Int)]) (by rw [sa.out, sb.out]; omega) (by omega) (hd.append (Dg.cons (by omega) (by omega) Dg.nil)) (by rw [List.length_append, List.length_singleton]; omega) (by omega)
        rw [vl_snoc, hi, Int.toNat_natCast, esum.out] at h
        exact h
      have e1 : Aside0 (((i + 1 : Nat) : Int) = wrap64 ((i : Int) + 1)) := ⟨by rw [x64 (by omega) (by omega)]; omega⟩
      refine Ev.step (f := fun k => environref02_plus.j1 k (dl a) (dl b) out c i true) (fun k => ?_) ?_
      · simp only [environref02_plus.l0]
        by_cases z1 : i < (dl a).length
        · rw [if_pos (by omega)]
        · rw [if_neg (by omega)]
          by_cases z2 : i < (dl b).length
          · rw [if_pos (by omega)]
          · rw [if_neg (by omega)]
            have h1 : qa = 0 := Decidable.byContradiction fun h => z1 (ia.out.2 h)
            have h2 : qb = 0 := Decidable.byContradiction fun h => z2 (ib.out.2 h)
            have : 0 < c := by omega
            rw [decide_eq_true (by omega)]
      refine Ev.step (fun k => ?_) go
      simp only [environref02_plus.j1]
      rw [if_pos trivial, e1.out]
      have em : ∀ d : Nat, d ≤ 27 → (wrap64 (Int.tdiv (d : Int) 10) = ((d / 10 : Nat) : Int) ∧ Int.tmod (d : Int) 10 = ((d % 10 : Nat) : Int)) := by
        intro d hd
        rw [Int.tdiv_eq_ediv_of_nonneg (by omega), Int.tmod_eq_emod_of_nonneg (by omega), x64 (by omega) (by omega)]
        exact ⟨rfl, rfl⟩
      have fin : ∀ d : Nat, d = c + qa % 10 + qb % 10 → environref02_plus.l0 k (dl a) (dl b) (out ++ [Int.tmod (d : Int) 10]) (wrap64 (Int.tdiv (d : Int) 10)) (wrap64 ((i : Int) + 1)) = environref02_plus.l0 k (dl a) (dl b) (out ++ [((A % 10 : Nat) : Int)]) (((c + qa % 10 + qb % 10) / 10 : Nat) : Int) (wrap64 ((i : Int) + 1)) := by
        intro d hd
        have := em d (by omega)
        rw [this.1, this.2, hd]
        congr 4
        omega
      by_cases z1 : i < (dl a).length
      · have ra := rda.out z1
        rw [if_pos (by omega), if_pos (by omega), ra]
        by_cases z2 : i < (dl b).length
        · rw [if_pos (by omega), if_pos (by omega), rdb.out z2]
          rw [x64 (n := (c : Int) + ((qa % 10 : Nat) : Int)) (by omega) (by omega), x64 (n := (c : Int) + ((qa % 10 : Nat) : Int) + ((qb % 10 : Nat) : Int)) (by omega) (by omega)]
          exact fin (c + qa % 10 + qb % 10) rfl
        · rw [if_neg (by omega), if_pos (by omega)]
          rw [x64 (n := (c : Int) + ((qa % 10 : Nat) : Int)) (by omega) (by omega)]
          have hb0 : qb = 0 := Decidable.byContradiction fun h => z2 (ib.out.2 h)
          exact fin (c + qa % 10) (by omega)
      · have ha0 : qa = 0 := Decidable.byContradiction fun h => z1 (ia.out.2 h)
        rw [if_neg (by omega)]
        by_cases z2 : i < (dl b).length
        · rw [if_pos (by omega), if_pos (by omega), if_pos (by omega), rdb.out z2]
          rw [x64 (n := (c : Int) + ((qb % 10 : Nat) : Int)) (by omega) (by omega)]
          exact fin (c + qb % 10) (by omega)
        · have hb0 : qb = 0 := Decidable.byContradiction fun h => z2 (ib.out.2 h)
          rw [if_neg (by omega), if_pos (by omega)]
          exact fin c (by omega)
theorem dl_len_add (a b : Nat) : dg (a + b) ≤ max (dg a) (dg b) + 1 := by
  by_cases hz : a + b = 0
  · rw [hz, dg_zero]; omega
  · have h1 := dg_lt a; have h2 := dg_lt b
    have h3 : 10 ^ dg a ≤ 10 ^ max (dg a) (dg b) := Nat.pow_le_pow_right (by decide) (Nat.le_max_left _ _)
    have h4 : 10 ^ dg b ≤ 10 ^ max (dg a) (dg b) := Nat.pow_le_pow_right (by decide) (Nat.le_max_right _ _)
    have h5 := dg_le hz
    have h6 : 10 ^ (dg (a + b) - 1) < 10 ^ (max (dg a) (dg b) + 1) := by rw [Nat.pow_succ]; omega
    have := (Nat.pow_lt_pow_iff_right (show 1 < 10 by decide)).1 h6
    omega
theorem plus_is' {a b : Nat} (ha : dg a ≤ 100000) (hb : dg b ≤ 100000) : Ev (fun k => environref02_plus.f k (dl a) (dl b)) (dl (a + b)) := by
  have h := plus_l0 a b (by rw [len_dl]; omega) (by rw [len_dl]; omega) (a + b) 0 0 [] (by simp) (by omega) Dg.nil rfl (by have := dl_len_add a b; omega)
  simp only [vl, Nat.pow_zero, Nat.one_mul, Nat.zero_add] at h
  exact h
theorem dl_shift {a : Nat} (h : a ≠ 0) (k : Nat) : List.replicate k 0 ++ dl a = dl (a * 10 ^ k) := by
  induction k with
  | zero => simp
  | succ k ih =>
    have h0 : a * 10 ^ (k + 1) ≠ 0 := Nat.mul_ne_zero h (Nat.ne_of_gt (Nat.pow_pos (by decide)))
    rw [List.replicate_succ, List.cons_append, ih, dl_pos h0, Nat.pow_succ, ← Nat.mul_assoc, Nat.mul_mod_left, Nat.mul_div_cancel _ (by decide)]
    rfl
theorem shift_is {a k : Nat} (ha : dg a ≤ 100000) (hk : k ≤ 100000) : environref02_shift.f (dl a) (k : Int) = some (dl (a * 10 ^ k)) := by
  unfold environref02_shift.f
  by_cases h : a = 0
  · subst h; rw [dl_zero, if_pos (by simp), Nat.zero_mul, dl_zero]
  · have hp := dg_pos h
    rw [if_neg (by rw [len_dl]; omega), if_pos (by omega), Int.toNat_natCast, if_pos (by omega)]
    simp only [Option.bind_some]
    rw [if_pos (by rw [List.length_replicate, len_dl]; omega), dl_shift h]
theorem small_l0 (n : Nat) (hn : n < 1000000000000000000) : ∀ j : Nat, j ≤ (dl n).length → Ev (fun k => environref02_small.l0 k (dl n) ((n / 10 ^ j : Nat) : Int) ((j : Int) - 1)) (n : Int) := by
  intro j
  have hl : (dl n).length ≤ 39 := by rw [len_dl]; exact dg_small (by omega)
  induction j with
  | zero =>
    intro _
    refine Ev.step (f := fun _ => some (n : Int)) (fun k => ?_) (Ev.now _)
    simp only [environref02_small.l0]; rw [if_neg (by omega), Nat.pow_zero, Nat.div_one]
  | succ j ih =>
    intro hj
    have e : ((j + 1 : Nat) : Int) - 1 = (j : Int) := by omega
    have rb := rd_dl (n := n) (i := j) (by omega)
    have hq : n / 10 ^ j ≤ n := Nat.div_le_self _ _
    have sd := div_succ n j
    have ih := ih (by omega)
    rw [e, sd]
    clear sd e
    generalize n / 10 ^ j = q at *
    refine Ev.step (fun k => ?_) ih
    simp only [environref02_small.l0]; rw [if_pos (by omega), if_pos (by omega), if_pos (by omega), rb, x64 (n := 10 * ((q / 10 : Nat) : Int)) (by omega) (by omega), x64 (n := 10 * ((q / 10 : Nat) : Int) + ((q % 10 : Nat) : Int)) (by omega) (by omega), x64 (n := (j : Int) - 1) (by omega) (by omega)]
    congr 1; omega
theorem small_is {n : Nat} (hn : n < 1000000000000000000) : Ev (fun k => environref02_small.f k (dl n)) (n : Int) := by
  have hl : (dl n).length ≤ 39 := by rw [len_dl]; exact dg_small (by omega)
  have h := small_l0 n hn (dl n).length (Nat.le_refl _)
  rw [dl_len_le (Nat.le_refl _)] at h
  refine Ev.congr (fun k => ?_) h
  unfold environref02_small.f; rw [x64 (by omega) (by omega)]; rfl
theorem minus_l0 (a b : Nat) (ha : (dl a).length ≤ 900000) : ∀ (n i c : Nat) (out : List Int), i + n = (dl a).length → c ≤ 1 → c + b / 10 ^ i ≤ a / 10 ^ i → Dg out → out.length = i →
    Ev (fun k => environref02_minus.l0 k (dl a) (dl b) out (c : Int) (i : Int)) (dl (vl out + 10 ^ i * (a / 10 ^ i - (c + b / 10 ^ i)))) := by
  intro n
  induction n with
  | zero =>
    intro i c out hi hc hle hd ho
    have h0 : a / 10 ^ i = 0 := dl_len_le (by omega)
    refine Ev.step (f := fun k => (environref02_trim.f k out).bind fun t => some t) (fun k => ?_) ?_
    · simp only [environref02_minus.l0]; rw [if_neg (by omega)]
    rw [h0, Nat.zero_sub, Nat.mul_zero, Nat.add_zero]
    exact Ev.bind (trim_is (by omega) hd) (Ev.now _)
  | succ n ih =>
    intro i c out hi hc hle hd ho
    have hlt : i < (dl a).length := by omega
    have ra := rd_dl hlt
    have rdb := Aside0.mk (rd_dl (n := b) (i := i))
    have lb := Aside0.mk (dl_len_le (n := b) (i := i))
    have sa := Aside0.mk (div_succ a i)
    have sb := Aside0.mk (div_succ b i)
    generalize a / 10 ^ i = qa at *
    generalize b / 10 ^ i = qb at *
    have e1 : Aside0 (wrap64 ((i : Int) + 1) = ((i + 1 : Nat) : Int)) := ⟨by rw [x64 (by omega) (by omega)]; omega⟩
    -- one digit
    have go : ∀ (d c' : Nat), d < 10 → c' ≤ 1 → qa % 10 + 10 * c' = d + c + qb % 10 → Ev (fun k => environref02_minus.l0 k (dl a) (dl b) (out ++ [(d : Int)]) (c' : Int) ((i + 1 : Nat) : Int)) (dl (vl out + 10 ^ i * (qa - (c + qb)))) := by
      intro d c' h1 h2 h3
      have h := ih (i + 1) c' (out ++ [(d : Int)]) (by omega) h2 (by rw [sa.out, sb.out]; omega) (hd.append (Dg.cons (by omega) (by omega) Dg.nil)) (by rw [List.length_append, List.length_singleton]; omega)
      rw [vl_snoc, ho, Int.toNat_natCast, sa.out, sb.out, Nat.pow_succ, Nat.mul_assoc, Nat.add_assoc, ← Nat.mul_add, show d + 10 * (qa / 10 - (c' + qb / 10)) = qa - (c + qb) by omega] at h
      exact h
    by_cases z2 : i < (dl b).length
    · have rb := rdb.out z2
      by_cases hneg : qa % 10 < c + qb % 10
      · refine Ev.step (fun k => ?_) (go (qa % 10 + 10 - c - qb % 10) 1 (by omega) (by omega) (by omega))
        simp only [environref02_minus.l0]
        rw [if_pos (by omega), if_pos (by omega), if_pos (by omega), ra, rb, x64 (n := ((qa % 10 : Nat) : Int) - c) (by omega) (by omega), x64 (n := ((qa % 10 : Nat) : Int) - c - ((qb % 10 : Nat) : Int)) (by omega) (by omega), if_pos (by omega), if_pos (by omega), e1.out, x64 (by omega) (by omega)]
        congr 4; omega
      · refine Ev.step (fun k => ?_) (go (qa % 10 - c - qb % 10) 0 (by omega) (by omega) (by omega))
        simp only [environref02_minus.l0]
        rw [if_pos (by omega), if_pos (by omega), if_pos (by omega), ra, rb, x64 (n := ((qa % 10 : Nat) : Int) - c) (by omega) (by omega), x64 (n := ((qa % 10 : Nat) : Int) - c - ((qb % 10 : Nat) : Int)) (by omega) (by omega), if_neg (by omega), if_pos (by omega), e1.out]
        congr 4; omega
    · have hb0 : qb = 0 := lb.out (by omega)
      by_cases hneg : qa % 10 < c
      · refine Ev.step (fun k => ?_) (go (qa % 10 + 10 - c) 1 (by omega) (by omega) (by rw [hb0]; omega))
        simp only [environref02_minus.l0]
        rw [if_pos (by omega), if_pos (by omega), if_neg (by omega), ra, x64 (n := ((qa % 10 : Nat) : Int) - c) (by omega) (by omega), if_pos (by omega), if_pos (by omega), e1.out, x64 (by omega) (by omega)]
        congr 4; omega
      · refine Ev.step (fun k => ?_) (go (qa % 10 - c) 0 (by omega) (by omega) (by rw [hb0]; omega))
        simp only [environref02_minus.l0]
        rw [if_pos (by omega), if_pos (by omega), if_neg (by omega), ra, x64 (n := ((qa % 10 : Nat) : Int) - c) (by omega) (by omega), if_neg (by omega), if_pos (by omega), e1.out]
        congr 4; omega
theorem minus_is' {a b : Nat} (ha : dg a ≤ 100000) (h : b ≤ a) : Ev (fun k => environref02_minus.f k (dl a) (dl b)) (dl (a - b)) := by
  have h := minus_l0 a b (by rw [len_dl]; omega) (dl a).length 0 0 [] (by omega) (by omega) (by simpa using h) Dg.nil rfl
  simp only [vl, Nat.pow_zero, Nat.one_mul, Nat.zero_add, Nat.div_one] at h
  exact h
theorem form_l0 (neg : Bool) : ∀ (n : Nat) (e : Int), n ≤ 1000000000000000000 → -100000 ≤ e → e + dg n ≤ 100000 → Ev (fun k => environref02_form.l0 k neg (dl n) e) (sgn neg (strip n e).1, (strip n e).2) := by
  intro n
  induction n using Nat.strongRecOn with
  | ind n ih =>
    intro e hn he he2
    by_cases hz : n = 0
    · subst hz
      rw [dl_zero]
      refine Ev.step (f := fun k => environref02_form.j1 k neg [] e) (fun k => ?_) ?_
      · simp only [environref02_form.l0]; rw [if_neg (by simp)]
      refine Ev.step (f := fun k => some (0, 0)) (fun k => ?_) ?_
      · simp only [environref02_form.j1]; rw [if_pos (by simp)]
      have h : strip 0 e = (0, 0) := by unfold strip; simp
      rw [h]
      have : sgn neg 0 = 0 := by unfold sgn; cases neg <;> rfl
      rw [this]; exact Ev.now _
    · have hp := dg_pos hz
      have hlen : 0 < (dl n).length := by rw [len_dl]; omega
      have hr := rd_dl hlen
      rw [Nat.pow_zero, Nat.div_one] at hr
      by_cases h0 : n % 10 = 0
      · have hs : strip n e = strip (n / 10) (e + 1) := by rw [strip, dif_neg hz, if_pos h0]
        rw [hs]
        refine Ev.step (fun k => ?_) (ih (n / 10) (by omega) (e + 1) (by omega) (by omega) (by omega))
        simp only [environref02_form.l0]
        rw [if_pos (by omega), if_pos (by omega), show (0 : Int) = ((0 : Nat) : Int) from rfl, hr, if_pos (by omega), if_pos (by omega), x64 (by omega) (by omega)]
        rw [dl_drop, Nat.pow_one]
      · have hs : strip n e = (n, e) := by rw [strip, dif_neg hz, if_neg h0]
        rw [hs]
        refine Ev.step (f := fun k => environref02_form.j1 k neg (dl n) e) (fun k => ?_) ?_
        · simp only [environref02_form.l0]
          rw [if_pos (by omega), if_pos (by omega), show (0 : Int) = ((0 : Nat) : Int) from rfl, hr, if_neg (by omega)]
        refine Ev.step (f := fun k => (environref02_small.f k (dl n)).bind fun t => if neg = true then some (wrap64 (-t), e) else some (t, e)) (fun k => ?_) ?_
        · simp only [environref02_form.j1]; rw [if_neg (by omega)]
        refine Ev.bind (small_is (by omega)) ?_
        unfold sgn
        cases neg
        · simp only [Bool.false_eq_true, if_false]; exact Ev.now _
        · simp only [if_true]; rw [x64 (by omega) (by omega)]; exact Ev.now _
theorem form_is (neg : Bool) {n : Nat} {e : Int} (hn : n ≤ 1000000000000000000) (he : -100000 ≤ e) (he2 : e ≤ 90000) : Ev (fun k => environref02_form.f k neg (dl n) e) (sgn neg (strip n e).1, (strip n e).2) := by
  have := dg_small (n := n) (by omega)
  exact form_l0 neg n e hn he (by omega)
theorem five_dl : ([5] : List Int) = dl 5 := by rw [dl_pos (by decide)]; rw [dl_zero]; rfl
theorem cmp_half (r d : Nat) (hd : d ≠ 0) (more : Bool) (hr : r < 10 ^ d) : (if wrap64 (cmp r (5 * 10 ^ (d - 1)) + 1) = 1 then (if more = true then (2 : Int) else wrap64 (cmp r (5 * 10 ^ (d - 1)) + 1)) else wrap64 (cmp r (5 * 10 ^ (d - 1)) + 1)) = sdS r (10 ^ d) more + 1 := by
  have e : 10 ^ d = 10 * 10 ^ (d - 1) := by rw [Nat.mul_comm, ← Nat.pow_succ]; congr 1; omega
  rw [e] at hr ⊢
  generalize 10 ^ (d - 1) = K at *
  have w0 : wrap64 (-1 + 1) = 0 := by unfold wrap64; omega
  have w1 : wrap64 (0 + 1) = 1 := by unfold wrap64; omega
  have w2 : wrap64 (1 + 1) = 2 := by unfold wrap64; omega
  rcases Nat.lt_trichotomy r (5 * K) with h | h | h
  · have hc : cmp r (5 * K) = -1 := by unfold cmp; rw [if_neg (by omega), if_pos h]
    have hs : sdS r (10 * K) more = -1 := by unfold sdS; rw [if_neg (by omega), if_pos (by omega)]
    rw [hc, hs, w0, if_neg (by decide)]; rfl
  · have hc : cmp r (5 * K) = 0 := by unfold cmp; rw [if_pos h]
    have hs : sdS r (10 * K) more = if more = true then 1 else 0 := by unfold sdS; rw [if_pos (by omega)]
    rw [hc, hs, w1, if_pos rfl]; cases more <;> rfl
  · have hc : cmp r (5 * K) = 1 := by unfold cmp; rw [if_neg (by omega), if_neg (by omega)]
    have hs : sdS r (10 * K) more = 1 := by unfold sdS; rw [if_neg (by omega), if_neg (by omega)]
    rw [hc, hs, w2, if_neg (by decide)]; rfl
theorem cut_is (neg : Bool) (n : Nat) (e : Int) (more : Bool) (d : Nat) (hd : d ≠ 0) (hnz : n ≠ 0 ∨ more = true) (hn : dg n ≤ 10000) (hd2 : d ≤ 20000) :
    Ev (fun k => environref02_cut.f k neg (dl n) e more (d : Int)) (dl (cutG n d more).1, (cutG n d more).2.1 + 1, (cutG n d more).2.2) := by
  have hlen := len_dl n
  unfold cutG
  rw [if_neg hd]
  by_cases hl : dg n < d
  · have hlt : n < 10 ^ (d - 1) := dg_le_iff.1 (by omega)
    have e10 : 10 ^ d = 10 * 10 ^ (d - 1) := by rw [Nat.mul_comm, ← Nat.pow_succ]; congr 1; omega
    refine Ev.congr (f := fun _ => some ([], 0, true)) (fun k => ?_) ?_
    · unfold environref02_cut.f; rw [if_pos (by omega)]
    have h1 : n % 10 ^ d = n := Nat.mod_eq_of_lt (by omega)
    have h2 : n / 10 ^ d = 0 := Nat.div_eq_of_lt (by omega)
    have h3 : sdS n (10 ^ d) more = -1 := by
      unfold sdS; rw [e10] at *; rw [if_neg (by omega), if_pos (by omega)]
    have h4 : (more || decide (n ≠ 0)) = true := by rcases hnz with h | h <;> simp [h]
    rw [h1, h2, h3, h4, dl_zero]; exact Ev.now _
  · have hlen5 : dg 5 ≤ 100000 := by rw [dg_pos (by decide), dg_zero]; decide
    refine Ev.congr (f := fun k => (environref02_trim.f k ([] ++ (dl n).drop d)).bind fun t311 => (environref02_trim.f k ([] ++ (dl n).take d)).bind fun t321 => (environref02_compare.f k t321 (dl (5 * 10 ^ (d - 1)))).bind fun t330 => some (t311, (if wrap64 (t330 + 1) = 1 then (if more = true then 2 else wrap64 (t330 + 1)) else wrap64 (t330 + 1)), if (t321.length : Int) > 0 then true else more)) (fun k => ?_) ?_
    · have hsh : environref02_shift.f [5] (wrap64 ((d : Int) - 1)) = some (dl (5 * 10 ^ (d - 1))) := by
        rw [x64 (by omega) (by omega), show (d : Int) - 1 = ((d - 1 : Nat) : Int) by omega, five_dl]; exact shift_is hlen5 (by omega)
      unfold environref02_cut.f
      rw [if_neg (by omega)]
      simp only [Option.bind_some]
      rw [if_pos (by omega), if_pos (by omega), Int.toNat_natCast, if_pos (by rw [List.length_nil, List.length_drop]; omega)]
      have hT : ([] : List Int).length + ((dl n).take d).length < 17592186044416 := by rw [List.length_nil, List.length_take]; omega
      simp only [hT, if_true, hsh, Option.bind_some]
      congr 1; funext t311; congr 1; funext t321; congr 1; funext t330
      by_cases c1 : wrap64 (t330 + 1) = 1
      · rw [if_pos c1, if_pos c1]
        cases more
        · simp only [Bool.false_eq_true, if_false]; split <;> rfl
        · simp only [if_true]; split <;> rfl
      · rw [if_neg c1, if_neg c1]; split <;> rfl
    rw [List.nil_append, List.nil_append]
    have t1 := trim_is (l := (dl n).drop d) (by rw [List.length_drop]; omega) ((dg_dl n).drop d)
    have t2 := trim_is (l := (dl n).take d) (by rw [List.length_take]; omega) ((dg_dl n).take d)
    rw [dl_drop, vl_dl] at t1
    rw [vl_take] at t2
    rw [dl_drop]
    refine Ev.bind t1 (Ev.bind t2 ?_)
    have hr := Nat.mod_lt n (p10 d)
    have hdr : dg (n % 10 ^ d) ≤ 20000 := Nat.le_trans (dg_le_iff.2 hr) hd2
    have hd5 : dg (5 * 10 ^ (d - 1)) ≤ 20000 := by rw [dg_mul (by decide), dg_pos (n := 5) (by decide), dg_zero]; omega
    refine Ev.bind (cmp_is' (by rw [len_dl]; omega) (by rw [len_dl]; omega)) ?_
    rw [cmp_half _ _ hd _ hr]
    have : (if ((dl (n % 10 ^ d)).length : Int) > 0 then true else more) = (more || decide (n % 10 ^ d ≠ 0)) := by
      by_cases h0 : n % 10 ^ d = 0
      · rw [h0, dl_zero]; simp
      · have hp := dg_pos h0
        rw [if_pos (by rw [len_dl]; omega)]; simp [h0]
    rw [this]; exact Ev.now _
theorem away_is (how : Int) (neg : Bool) (q : Nat) (half : Int) (left : Bool) (hh : half = -1 ∨ half = 0 ∨ half = 1) : environref02_away.f how neg (dl q) (half + 1) left = some (awayS how neg (decide (q % 2 = 1)) half left) := by
  unfold environref02_away.f awayS
  by_cases h0 : how = 0
  · rw [if_pos h0, if_pos h0]
    by_cases hz : q = 0
    · subst hz; rw [dl_zero, if_neg (by simp)]
      rcases hh with rfl | rfl | rfl <;> simp
    · have hp := dg_pos hz
      have hlen : 0 < (dl q).length := by rw [len_dl]; omega
      have hr := rd_dl hlen
      rw [Nat.pow_zero, Nat.div_one] at hr
      rw [if_pos (by omega), if_pos (by omega), show (0 : Int) = ((0 : Nat) : Int) from rfl, hr]
      have hm : (Int.tmod ((q % 10 : Nat) : Int) 2 == 1) = decide (q % 2 = 1) := by
        rw [Int.tmod_eq_emod_of_nonneg (by omega), Bool.eq_iff_iff, beq_iff_eq, decide_eq_true_eq]; omega
      rw [hm]
      rcases hh with rfl | rfl | rfl <;> simp
  · rw [if_neg h0, if_neg h0]
    by_cases h1 : how = 1
    · rw [if_pos h1, if_pos h1]; cases left <;> simp
    · rw [if_neg h1, if_neg h1]
      by_cases h2 : how = 2
      · rw [if_pos h2, if_pos h2]; cases left <;> simp
      · rw [if_neg h2, if_neg h2]
def pd (s : Int) : Nat := if s = -1 then 7 else if s = 0 then 15 else if s = 1 then 18 else 0
def er (s : Int) : Int := if s = -1 then 0 else if s = 0 then 0 else if s = 1 then 0 else 1
theorem rdigits_is (s : Int) : environref02_Digits.f s = some ((pd s : Int), er s) := by
  unfold environref02_Digits.f pd er
  split
  · rfl
  · split
    · rfl
    · split <;> rfl
theorem pd_of {s : Int} (h : er s = 0) : pd s = 7 ∨ pd s = 15 ∨ pd s = 18 := by
  unfold er at h; unfold pd
  split
  · omega
  · split
    · omega
    · split
      · omega
      · rename_i h1 h2 h3; rw [if_neg h1, if_neg h2, if_neg h3] at h; omega
theorem er_or (s : Int) : er s = 0 ∨ er s = 1 := by
  unfold er; split
  · omega
  · split
    · omega
    · split <;> omega
theorem nines (p : Nat) : dl (10 ^ p - 1) = List.replicate p 9 := by
  induction p with
  | zero => rw [Nat.pow_zero, Nat.sub_self, dl_zero]; rfl
  | succ p ih =>
    have z := p10 p
    have e : 10 ^ (p + 1) = 10 * 10 ^ p := by rw [Nat.pow_succ, Nat.mul_comm]
    rw [dl_pos (by omega), List.replicate_succ, ← ih]
    congr 1
    · omega
    · congr 1; omega
theorem most_l0 (p : Nat) (hp : p ≤ 18) (neg : Bool) (l : List Int) (e : Int) (more : Bool) (hp0 : p ≠ 0) : ∀ (n i : Nat), i + n = p → Ev (fun k => environref02_Rounded.l0 k (p : Int) (List.replicate i 9) (i : Int) neg l e more) (sgn neg (10 ^ p - 1), 400, 0) := by
  intro n
  induction n with
  | zero =>
    intro i hi
    obtain rfl : i = p := by omega
    refine Ev.step (f := fun k => (environref02_form.f k neg (List.replicate i 9) 400).bind fun t => some (t.1, t.2, 0)) (fun k => ?_) ?_
    · simp only [environref02_Rounded.l0]; rw [if_neg (by omega)]
    rw [← nines]
    have h18 : 10 ^ i ≤ 10 ^ 18 := Nat.pow_le_pow_right (by decide) hp
    have h := form_is neg (n := 10 ^ i - 1) (e := 400) (by omega) (by omega) (by omega)
    have hm : (10 ^ i - 1) % 10 ≠ 0 := by
      have e : 10 ^ i = 10 * 10 ^ (i - 1) := by rw [Nat.mul_comm, ← Nat.pow_succ]; congr 1; omega
      have := p10 (i - 1); omega
    rw [strip_ok (fun h => by rw [h] at hm; exact absurd rfl hm) (fun _ => hm)] at h
    exact Ev.bind h (Ev.now _)
  | succ n ih =>
    intro i hi
    refine Ev.step (fun k => ?_) (ih (i + 1) (by omega))
    simp only [environref02_Rounded.l0]; rw [if_pos (by omega), if_pos (by rw [List.length_replicate]; omega), x64 (by omega) (by omega), List.replicate_succ']
    rfl
def flat (r : (Int × Int) × Int) : Int × Int × Int := (r.1.1, r.1.2, r.2)
theorem j4_is (p : Nat) (hp : p ≤ 18) (hp0 : p ≠ 0) (b neg : Bool) (l : List Int) (e : Int) (more : Bool) :
    Ev (fun k => environref02_Rounded.j4 k (p : Int) b neg l e more) (if b = true then (sgn neg (10 ^ p - 1), 400, 0) else (0, 0, 11)) := by
  cases b
  · refine Ev.step (f := fun _ => some (0, 0, 11)) (fun k => ?_) (Ev.now _)
    simp only [environref02_Rounded.j4]; rw [if_neg (by simp)]
  · refine Ev.step (fun k => ?_) (most_l0 p hp neg l e more hp0 p 0 (by omega))
    simp only [environref02_Rounded.j4]; rw [if_pos trivial]; rfl
theorem j3_is (p : Nat) (hp : p ≤ 18) (hp0 : p ≠ 0) (how : Int) (h0 : 0 ≤ how) (h3 : how ≤ 3) (neg : Bool) (q : Nat) (hq : q ≤ 10 ^ p) (t : Int) (ht : -50000 ≤ t) (ht2 : t ≤ 50000) (hz : q = 0 → t ≤ p + 400) (l : List Int) (e : Int) (more : Bool) :
    Ev (fun k => environref02_Rounded.j3 k how (p : Int) t (dl q) neg l e more) (flat (fin p how neg q t)) := by
  have h18 : 10 ^ p ≤ 10 ^ 18 := Nat.pow_le_pow_right (by decide) hp
  have hdq := dg_small (n := q) (by omega)
  have hw1 : Aside0 (wrap64 (((dl q).length : Int) + t) = (dg q : Int) + t) := ⟨by rw [len_dl]; exact x64 (by omega) (by omega)⟩
  have hw2 : Aside0 (wrap64 ((p : Int) + 400) = (p : Int) + 400) := ⟨x64 (by omega) (by omega)⟩
  by_cases hle : (dg q : Int) + t ≤ p + 400
  · refine Ev.step (f := fun k => (environref02_form.f k neg (dl q) t).bind fun r => some (r.1, r.2, 0)) (fun k => ?_) ?_
    · simp only [environref02_Rounded.j3]; rw [hw1.out, hw2.out, if_pos hle]
    have hfin : flat (fin p how neg q t) = (sgn neg (strip q t).1, (strip q t).2, 0) := by
      unfold fin
      by_cases h : q = 0
      · subst h
        rw [if_pos rfl]
        have h : strip 0 t = (0, 0) := by unfold strip; simp
        rw [h]
        have : sgn neg 0 = 0 := by unfold sgn; cases neg <;> rfl
        rw [this]; rfl
      · rw [if_neg h, if_neg (by omega)]; rfl
    rw [hfin]
    exact Ev.bind (form_is neg (by omega) (by omega) (by omega)) (Ev.now _)
  · have hq0 : q ≠ 0 := by rintro rfl; rw [dg_zero] at hle; have := hz rfl; omega
    have key : ∀ b : Bool, (∀ k, environref02_Rounded.j3 (k + 1) how (p : Int) t (dl q) neg l e more = environref02_Rounded.j4 k (p : Int) b neg l e more) → (b = true ↔ ¬ (how = 0 ∨ how = 1 ∧ neg = false ∨ how = 2 ∧ neg = true)) → Ev (fun k => environref02_Rounded.j3 k how (p : Int) t (dl q) neg l e more) (flat (fin p how neg q t)) := by
      intro b hb hiff
      have hfin : flat (fin p how neg q t) = if b = true then (sgn neg (10 ^ p - 1), 400, 0) else (0, 0, 11) := by
        unfold fin
        rw [if_neg hq0, if_pos (by omega)]
        by_cases hc : how = 0 ∨ how = 1 ∧ neg = false ∨ how = 2 ∧ neg = true
        · rw [if_pos hc, if_neg (fun h => hiff.1 h hc)]; rfl
        · rw [if_neg hc, if_pos (hiff.2 hc)]; rfl
      rw [hfin]
      exact Ev.step hb (j4_is p hp hp0 b neg l e more)
    have hh : how = 0 ∨ how = 1 ∨ how = 2 ∨ how = 3 := by omega
    rcases hh with rfl | rfl | rfl | rfl
    · refine key false (fun k => ?_) (by simp)
      simp only [environref02_Rounded.j3]; rw [hw1.out, hw2.out, if_neg hle, if_neg (by decide), if_neg (by decide), if_neg (by decide)]
    · refine key neg (fun k => ?_) (by cases neg <;> simp)
      simp only [environref02_Rounded.j3]; rw [hw1.out, hw2.out, if_neg hle, if_neg (by decide), if_neg (by decide), if_pos trivial]
    · refine key (!neg) (fun k => ?_) (by cases neg <;> simp)
      simp only [environref02_Rounded.j3]; rw [hw1.out, hw2.out, if_neg hle, if_neg (by decide), if_pos trivial]
      cases neg
      · rw [if_neg (by decide)]; rfl
      · rw [if_pos rfl, if_neg (by decide)]; rfl
    · refine key true (fun k => ?_) (by simp)
      simp only [environref02_Rounded.j3]; rw [hw1.out, hw2.out, if_neg hle, if_pos trivial]
theorem sd_or (r m : Nat) (more : Bool) : sdS r m more = -1 ∨ sdS r m more = 0 ∨ sdS r m more = 1 := by
  unfold sdS; split
  · split <;> simp
  · split <;> simp
theorem cut_or (n d : Nat) (more : Bool) : (cutG n d more).2.1 = -1 ∨ (cutG n d more).2.1 = 0 ∨ (cutG n d more).2.1 = 1 := by
  unfold cutG; split
  · simp
  · exact sd_or _ _ _
theorem j2_is (p : Nat) (hp : p ≤ 18) (hp0 : p ≠ 0) (how : Int) (h0 : 0 ≤ how) (h3 : how ≤ 3) (neg : Bool) (c : Nat × Int × Bool) (hc : c.2.1 = -1 ∨ c.2.1 = 0 ∨ c.2.1 = 1) (hq : up how neg c ≤ 10 ^ p) (t : Int) (ht : -50000 ≤ t) (ht2 : t ≤ 50000) (hz : up how neg c = 0 → t ≤ p + 400) (l : List Int) (e : Int) (more : Bool) :
    Ev (fun k => environref02_Rounded.j2 k how (p : Int) t (dl c.1) (c.2.1 + 1) c.2.2 neg l e more) (flat (fin p how neg (up how neg c) t)) := by
  have h18 : 10 ^ p ≤ 10 ^ 18 := Nat.pow_le_pow_right (by decide) hp
  have haw := away_is how neg c.1 c.2.1 c.2.2 hc
  have hj := j3_is p hp hp0 how h0 h3 neg (up how neg c) hq t ht ht2 hz l e more
  by_cases ha : awayS how neg (decide (c.1 % 2 = 1)) c.2.1 c.2.2 = true
  · have hu : up how neg c = c.1 + 1 := by unfold up; rw [if_pos ha]
    rw [ha] at haw
    refine Ev.step (f := fun k => (environref02_Of.f k 1).bind fun t372 => (environref02_plus.f k (dl c.1) t372).bind fun t375 => environref02_Rounded.j3 k how p t t375 neg l e more) (fun k => ?_) ?_
    · simp only [environref02_Rounded.j2]; rw [haw]; simp only [Option.bind_some, if_true]
    have hd1 := dg_small (n := c.1) (by omega)
    have hd2 : dg 1 ≤ 100000 := by rw [dg_pos (by decide), dg_zero]; decide
    have ho := of_is (m := 1) (by decide) (by decide)
    have hp1 := plus_is' (a := c.1) (b := 1) (by omega) hd2
    rw [hu] at hj ⊢
    exact Ev.bind ho (Ev.bind hp1 hj)
  · have hu : up how neg c = c.1 := by unfold up; rw [if_neg ha]; rfl
    have ha' : awayS how neg (decide (c.1 % 2 = 1)) c.2.1 c.2.2 = false := by simpa using ha
    rw [ha'] at haw
    rw [hu] at hj ⊢
    refine Ev.step (fun k => ?_) hj
    simp only [environref02_Rounded.j2]; rw [haw]; simp only [Option.bind_some, Bool.false_eq_true, if_false]
theorem rnd_zero (p : Nat) (how : Int) (neg : Bool) (e : Int) : rnd p how neg 0 e false = ((0, 0), 0) := by
  unfold rnd
  have h : ∀ d, cutG 0 d false = (0, -1, false) := by
    intro d; have := cut_exact 0 d d (Nat.le_refl _); simpa using this
  rw [h, up_exact]; unfold fin; simp
theorem rounded_is {s : Int} (hs : er s = 0) (how : Int) (h0 : 0 ≤ how) (h3 : how ≤ 3) (neg : Bool) (n : Nat) (e : Int) (more : Bool) (hnz : n ≠ 0 ∨ more = false) (hn : dg n ≤ 5000) (he : -15000 ≤ e) (he2 : e ≤ 15000) :
    Ev (fun k => environref02_Rounded.f k s how neg (dl n) e more) (flat (rnd (pd s) how neg n e more)) := by
  have hp := pd_of hs
  have hlen := len_dl n
  by_cases hz : n = 0
  · subst hz
    obtain rfl : more = false := by rcases hnz with h | h; exact absurd rfl h; exact h
    rw [rnd_zero, dl_zero]
    refine Ev.congr (f := fun k => environref02_Rounded.j0 k how (pd s) true neg [] e false) (fun k => ?_) ?_
    · unfold environref02_Rounded.f; rw [rdigits_is]; simp only [Option.bind_some]; rw [if_pos (by simp)]; rfl
    refine Ev.step (f := fun k => some (0, 0, 0)) (fun k => ?_) (Ev.now _)
    simp only [environref02_Rounded.j0]; rw [if_pos trivial]
  · have hdp := dg_pos hz
    have hup := up_lt (pd s) how neg n e more
    have hcq := cut_or n (dropS (pd s) n e) more
    have hg := (show -400 ≤ e + (dropS (pd s) n e : Int) by unfold dropS; omega)
    have hq0 : up how neg (cutG n (dropS (pd s) n e) more) = 0 → e + dropS (pd s) n e ≤ pd s + 400 := by
      intro hu
      have h1 := (up_le how neg n (dropS (pd s) n e) more).1
      rw [hu] at h1
      have h2 := dg_div n (dropS (pd s) n e)
      rw [Nat.le_zero.1 h1, dg_zero] at h2
      unfold dropS at *; omega
    have hj2 := j2_is (pd s) (by omega) (by omega) how h0 h3 neg (cutG n (dropS (pd s) n e) more) hcq hup (e + dropS (pd s) n e) (by omega) (by unfold dropS; omega) hq0 (dl n) e more
    have hD : dropS (pd s) n e = max (dg n - pd s) (-400 - e).toNat := rfl
    have j1 : Ev (fun k => environref02_Rounded.j1 k how (pd s) (max (e + dg n - pd s) (-400)) neg (dl n) e more) (flat (rnd (pd s) how neg n e more)) := by
      by_cases hd : dropS (pd s) n e = 0
      · unfold rnd
        rw [hd] at hj2 ⊢
        rw [Int.natCast_zero, Int.add_zero] at *
        refine Ev.step (fun k => ?_) hj2
        simp only [environref02_Rounded.j1]; rw [if_neg (by omega)]; rfl
      · refine Ev.step (f := fun k => (environref02_cut.f k neg (dl n) e more (dropS (pd s) n e : Nat)).bind fun b => environref02_Rounded.j2 k how (pd s) (e + dropS (pd s) n e) b.1 b.2.1 b.2.2 neg (dl n) e more) (fun k => ?_) ?_
        · simp only [environref02_Rounded.j1]; rw [if_pos (by omega), x64 (by omega) (by omega)]
          have e1 : max (e + (dg n : Int) - (pd s : Int)) (-400) = e + ((dropS (pd s) n e : Nat) : Int) := by omega
          rw [e1, show e + ((dropS (pd s) n e : Nat) : Int) - e = ((dropS (pd s) n e : Nat) : Int) by omega]
        exact Ev.bind (cut_is neg n e more (dropS (pd s) n e) hd (.inl hz) (by omega) (by omega)) hj2
    refine Ev.congr (f := fun k => environref02_Rounded.j0 k how (pd s) false neg (dl n) e more) (fun k => ?_) ?_
    · unfold environref02_Rounded.f; rw [rdigits_is]; simp only [Option.bind_some]; rw [if_neg (by omega)]
    refine Ev.step (fun k => ?_) j1
    simp only [environref02_Rounded.j0]; rw [if_neg (by simp), x64 (n := e + ((dl n).length : Int)) (by omega) (by omega), x64 (n := e + ((dl n).length : Int) - (pd s : Int)) (by omega) (by omega), hlen]
    by_cases h4 : e + (dg n : Int) - (pd s : Int) < -400
    · rw [if_pos h4, show max (e + (dg n : Int) - (pd s : Int)) (-400) = -400 by omega]
    · rw [if_neg h4, show max (e + (dg n : Int) - (pd s : Int)) (-400) = e + (dg n : Int) - (pd s : Int) by omega]
def okB (p n : Nat) (e : Int) : Bool := if n = 0 then decide (e = 0) else decide (n % 10 ≠ 0 ∧ dg n ≤ p ∧ -400 ≤ e ∧ e + dg n ≤ p + 400)
theorem rvalid_is (s m e : Int) (hm : -9223372036854775808 ≤ m) (hm2 : m ≤ 9223372036854775807) : Ev (fun k => environref02_Valid.f k s m e) (decide (er s = 0) && okB (pd s) m.natAbs e) := by
  by_cases hs : er s = 0
  · have hp := pd_of hs
    rw [hs, show decide ((0 : Int) = 0) = true from rfl, Bool.true_and]
    unfold okB
    by_cases h0 : m = 0
    · subst h0
      refine Ev.congr (f := fun _ => some (decide (e = 0))) (fun k => ?_) (Ev.now _)
      unfold environref02_Valid.f; rw [rdigits_is]; simp only [Option.bind_some]; rw [if_pos hs, if_pos trivial]; rfl
    · have hz : m.natAbs ≠ 0 := by omega
      have hdp := dg_pos hz
      have hds := dg_small (n := m.natAbs) (by omega)
      have hlen := len_dl m.natAbs
      have hr := rd_dl (n := m.natAbs) (i := 0) (by omega)
      rw [Nat.pow_zero, Nat.div_one] at hr
      rw [if_neg hz]
      refine Ev.congr (f := fun k => (environref02_Of.f k m).bind fun t269 => (if 0 < (t269.length : Int) then (if (rd t269 0) = 0 then (some false) else (if (t269.length : Int) ≤ pd s then (if e ≥ (-400) then (some (decide (e ≤ (wrap64 ((wrap64 ((pd s : Int) + 400)) - (t269.length : Int)))))) else (some false)) else (some false))) else (none))) (fun k => ?_) ?_
      · unfold environref02_Valid.f; rw [rdigits_is]; simp only [Option.bind_some]; rw [if_pos hs, if_neg h0]
      refine Ev.bind (of_is hm hm2) ?_
      have hw : wrap64 ((wrap64 ((pd s : Int) + 400)) - ((dl m.natAbs).length : Int)) = (pd s : Int) + 400 - dg m.natAbs := by
        rw [hlen, x64 (n := (pd s : Int) + 400) (by omega) (by omega), x64 (by omega) (by omega)]
      rw [if_pos (by omega), hw]
      clear hw
      rw [show rd (dl m.natAbs) 0 = ((m.natAbs % 10 : Nat) : Int) from hr]
      by_cases h1 : m.natAbs % 10 = 0
      · rw [if_pos (by omega), decide_eq_false (fun h => h.1 h1)]; exact Ev.now _
      · rw [if_neg (by omega)]
        by_cases h2 : dg m.natAbs ≤ pd s
        · rw [if_pos (by omega)]
          by_cases h3 : -400 ≤ e
          · rw [if_pos h3]
            have : decide (e ≤ (pd s : Int) + 400 - dg m.natAbs) = decide (m.natAbs % 10 ≠ 0 ∧ dg m.natAbs ≤ pd s ∧ -400 ≤ e ∧ e + dg m.natAbs ≤ pd s + 400) := by
              rw [decide_eq_decide]; constructor
              · intro h; exact ⟨h1, h2, h3, by omega⟩
              · intro h; omega
            rw [this]; exact Ev.now _
          · rw [if_neg h3, decide_eq_false (fun h => h3 h.2.2.1)]; exact Ev.now _
        · rw [if_neg (by omega), decide_eq_false (fun h => h2 h.2.1)]; exact Ev.now _
  · refine Ev.congr (f := fun _ => some false) (fun k => ?_) ?_
    · unfold environref02_Valid.f; rw [rdigits_is]; simp only [Option.bind_some]; rw [if_neg hs]
    rw [decide_eq_false hs, Bool.false_and]; exact Ev.now _
/-- what is wrong with a size, a direction and two numbers -/
def rightS (s how : Int) (a b : Bool) : Int := if er s = 0 ∧ 0 ≤ how ∧ how ≤ 3 then (if a && b then 0 else 11) else 1
theorem right_is (s how m e n f : Int) (hm : -9223372036854775808 ≤ m) (hm2 : m ≤ 9223372036854775807) (hn : -9223372036854775808 ≤ n) (hn2 : n ≤ 9223372036854775807) :
    Ev (fun k => environref02_right.f k s how m e n f) (rightS s how (okB (pd s) m.natAbs e) (okB (pd s) n.natAbs f)) := by
  unfold rightS
  have hv1 := rvalid_is s m e hm hm2
  have hv2 := rvalid_is s n f hn hn2
  rcases er_or s with hs | hs
  · rw [hs, show decide ((0 : Int) = 0) = true from rfl, Bool.true_and] at hv1 hv2
    have hbad : Ev (fun k => environref02_right.j0 k s true m e n f) 1 := by
      refine Ev.step (f := fun _ => some 1) (fun k => ?_) (Ev.now _)
      simp only [environref02_right.j0]; rw [if_pos trivial]
    by_cases h0 : how < 0
    · rw [if_neg (by omega)]
      refine Ev.congr (fun k => ?_) hbad
      unfold environref02_right.f; rw [rdigits_is]; simp only [Option.bind_some]; rw [if_pos hs, if_pos h0]
    · by_cases h3 : how > 3
      · rw [if_neg (by omega)]
        refine Ev.congr (fun k => ?_) hbad
        unfold environref02_right.f; rw [rdigits_is]; simp only [Option.bind_some]; rw [if_pos hs, if_neg h0, decide_eq_true h3]
      · rw [if_pos ⟨hs, by omega, by omega⟩]
        refine Ev.congr (f := fun k => environref02_right.j0 k s false m e n f) (fun k => ?_) ?_
        · unfold environref02_right.f; rw [rdigits_is]; simp only [Option.bind_some]; rw [if_pos hs, if_neg h0, decide_eq_false h3]
        refine Ev.step (f := fun k => (environref02_Valid.f k s m e).bind fun t277 => if t277 = true then ((environref02_Valid.f k s n f).bind fun t278 => (if t278 = true then (some 0) else (some 11))) else (some 11)) (fun k => ?_) ?_
        · simp only [environref02_right.j0]; rw [if_neg (by simp)]
        refine Ev.bind hv1 ?_
        cases okB (pd s) m.natAbs e
        · exact Ev.now _
        · refine Ev.bind hv2 ?_
          cases okB (pd s) n.natAbs f <;> exact Ev.now _
  · rw [if_neg (by omega)]
    refine Ev.congr (f := fun _ => some 1) (fun k => ?_) (Ev.now _)
    unfold environref02_right.f; rw [rdigits_is]; simp only [Option.bind_some]; rw [if_neg (by omega), hs]
theorem pdigits_is (s : Int) : reals_Digits.f s = some ((pd s : Int), er s) := by
  unfold reals_Digits.f pd er
  split
  · rfl
  · split
    · rfl
    · split <;> rfl
theorem hl_small {n : Nat} (h : n < 18446744073709551616) : hiw n = 0 ∧ low n = (n : Int) := by
  unfold hiw low; omega
theorem mag_is {m : Int} (h : -9223372036854775808 ≤ m) (h' : m ≤ 9223372036854775807) : reals_magnitude.f m = some (hiw m.natAbs, low m.natAbs) := by
  have hs := hl_small (n := m.natAbs) (by omega)
  rw [hs.1, hs.2]
  unfold reals_magnitude.f
  simp only [IntKind.wrap_u64]
  split
  · congr 2; omega
  · congr 2; omega
theorem two128 {n : Nat} (h : n ≤ 9223372036854775808) : n < 340282366920938463463374607431768211456 := by omega
theorem pdig_is {n : Nat} (h : n < 340282366920938463463374607431768211456) : reals_wide_digits.f (hiw n) (low n) = some ((dg n : Nat) : Int) := by
  unfold reals_wide_digits.f
  have hu := hl_u h
  rw [if_pos hu, wv_hl]
theorem tmod_ten (m : Int) : (Int.tmod m 10 = 0) ↔ m.natAbs % 10 = 0 := by
  rcases Int.lt_or_le m 0 with h | h
  · have : m = -((m.natAbs : Nat) : Int) := by omega
    generalize m.natAbs = n at *
    subst this
    rw [Int.neg_tmod, Int.tmod_eq_emod_of_nonneg (by omega)]; omega
  · have : m = ((m.natAbs : Nat) : Int) := by omega
    generalize m.natAbs = n at *
    subst this
    rw [Int.tmod_eq_emod_of_nonneg (by omega)]; omega
theorem valid_j0 (k : Nat) (h l p e : Int) (d : Nat) (m : Int) (hm : reals_magnitude.f m = some (h, l)) (hd : reals_wide_digits.f h l = some (d : Int)) : reals_Valid.j0 (k + 1) p false m e = some (decide ((wrap64 (d + (mx (wrap64 (e - 400)) 0))) ≤ p)) := by
  simp only [reals_Valid.j0]; rw [if_neg (by simp), hm]; simp only [Option.bind_some]; rw [hd]; simp only [Option.bind_some]
theorem pvalid_is (s m e : Int) (hm : -9223372036854775808 ≤ m) (hm2 : m ≤ 9223372036854775807) : Ev (fun k => reals_Valid.f k s m e) (decide (er s = 0) && okB (pd s) m.natAbs e) := by
  by_cases hs : er s = 0
  · have hp := pd_of hs
    rw [hs, show decide ((0 : Int) = 0) = true from rfl, Bool.true_and]
    unfold okB
    by_cases h0 : m = 0
    · subst h0
      refine Ev.congr (f := fun _ => some (decide (e = 0))) (fun k => ?_) (Ev.now _)
      unfold reals_Valid.f; rw [pdigits_is]; simp only [Option.bind_some]; rw [if_pos hs, if_pos trivial]; rfl
    · have hz : m.natAbs ≠ 0 := by omega
      have hds := dg_small (n := m.natAbs) (by omega)
      have hdg := pdig_is (two128 (n := m.natAbs) (by omega))
      have hmg := mag_is hm hm2
      rw [if_neg hz]
      have bad : Ev (fun k => reals_Valid.j0 k (pd s) true m e) false := by
        refine Ev.step (f := fun _ => some false) (fun k => ?_) (Ev.now _)
        simp only [reals_Valid.j0]; rw [if_pos trivial]
      by_cases h1 : m.natAbs % 10 = 0
      · rw [decide_eq_false (fun h => h.1 h1)]
        refine Ev.congr (fun k => ?_) bad
        unfold reals_Valid.f; rw [pdigits_is]; simp only [Option.bind_some]; rw [if_pos hs, if_neg h0, if_pos ((tmod_ten m).2 h1)]
      · have h1' : ¬ Int.tmod m 10 = 0 := fun h => h1 ((tmod_ten m).1 h)
        by_cases h2 : e < -400
        · rw [decide_eq_false (fun h => by have := h.2.2.1; omega)]
          refine Ev.congr (fun k => ?_) bad
          unfold reals_Valid.f; rw [pdigits_is]; simp only [Option.bind_some]; rw [if_pos hs, if_neg h0, if_neg h1', if_pos h2]
        · by_cases h3 : e > 400 + pd s
          · rw [decide_eq_false (fun h => by have := h.2.2.2; omega)]
            refine Ev.congr (fun k => ?_) bad
            unfold reals_Valid.f; rw [pdigits_is]; simp only [Option.bind_some]; rw [if_pos hs, if_neg h0, if_neg h1', if_neg h2, x64 (by omega) (by omega), decide_eq_true h3]
          · refine Ev.congr (f := fun k => reals_Valid.j0 k (pd s) false m e) (fun k => ?_) ?_
            · unfold reals_Valid.f; rw [pdigits_is]; simp only [Option.bind_some]; rw [if_pos hs, if_neg h0, if_neg h1', if_neg h2, x64 (by omega) (by omega), decide_eq_false h3]
            refine Ev.step (f := fun _ => some (decide (((dg m.natAbs : Nat) : Int) + mx (e - 400) 0 ≤ pd s))) (fun k => ?_) ?_
            · rw [valid_j0 k _ _ _ e _ m hmg hdg]
              rw [x64 (n := e - 400) (by omega) (by omega), x64 (by unfold mx; split <;> omega) (by unfold mx; split <;> omega)]
            have : decide (((dg m.natAbs : Nat) : Int) + mx (e - 400) 0 ≤ pd s) = decide (m.natAbs % 10 ≠ 0 ∧ dg m.natAbs ≤ pd s ∧ -400 ≤ e ∧ e + dg m.natAbs ≤ pd s + 400) := by
              rw [decide_eq_decide]; unfold mx; constructor
              · intro h; split at h <;> exact ⟨h1, by omega, by omega, by omega⟩
              · rintro ⟨a, b, c, d⟩; split <;> omega
            rw [this]; exact Ev.now _
  · refine Ev.congr (f := fun _ => some false) (fun k => ?_) ?_
    · unfold reals_Valid.f; rw [pdigits_is]; simp only [Option.bind_some]; rw [if_neg hs]
    rw [decide_eq_false hs, Bool.false_and]; exact Ev.now _
/-- what check returns -/
def checkS (s how : Int) (ok : Bool) : Int × Int := if er s = 0 ∧ 0 ≤ how ∧ how ≤ 3 then (if ok = true then ((pd s : Int), 0) else (0, 11)) else (0, 1)
theorem check_l0 (s : Int) (hs : er s = 0) (l : List S29) (hl : ∀ x ∈ l, -9223372036854775808 ≤ x.f0 ∧ x.f0 ≤ 9223372036854775807) (hn : l.length ≤ 1000) : ∀ (n i : Nat), i + n = l.length →
    Ev (fun k => reals_check.l0 k s (pd s) l (l.length : Int) (i : Int)) (if (l.drop i).all (fun x => okB (pd s) x.f0.natAbs x.f1) = true then ((pd s : Int), 0) else (0, 11)) := by
  intro n
  induction n with
  | zero =>
    intro i hi
    rw [List.drop_eq_nil_of_le (by omega)]
    refine Ev.step (f := fun _ => some ((pd s : Int), 0)) (fun k => ?_) (Ev.now _)
    simp only [reals_check.l0]; rw [if_neg (by omega)]
  | succ n ih =>
    intro i hi
    have hlt : i < l.length := by omega
    have hrd : rd_T29 l (i : Int) = l[i] := by unfold rd_T29; rw [Int.toNat_natCast, List.getD_eq_getElem?_getD, List.getElem?_eq_getElem hlt]; rfl
    have hb := hl l[i] (List.getElem_mem hlt)
    have hv := pvalid_is s l[i].f0 l[i].f1 hb.1 hb.2
    rw [hs, show decide ((0 : Int) = 0) = true from rfl, Bool.true_and] at hv
    rw [List.drop_eq_getElem_cons hlt, List.all_cons]
    refine Ev.step (f := fun k => (reals_Valid.f k s l[i].f0 l[i].f1).bind fun t112 => if t112 = true then reals_check.l0 k s (pd s) l (l.length : Int) ((i + 1 : Nat) : Int) else some (0, 11)) (fun k => ?_) ?_
    · simp only [reals_check.l0]; rw [if_pos (by omega), if_pos (by omega), if_pos (by omega), hrd, x64 (by omega) (by omega)]; rfl
    refine Ev.bind hv ?_
    cases okB (pd s) l[i].f0.natAbs l[i].f1
    · exact Ev.now _
    · rw [Bool.true_and]; exact ih (i + 1) (by omega)
theorem check_is (s how : Int) (l : List S29) (hl : ∀ x ∈ l, -9223372036854775808 ≤ x.f0 ∧ x.f0 ≤ 9223372036854775807) (hn : l.length ≤ 1000) : Ev (fun k => reals_check.f k s how l) (checkS s how (l.all fun x => okB (pd s) x.f0.natAbs x.f1)) := by
  unfold checkS
  have bad : ∀ p : Int, Ev (fun k => reals_check.j0 k s l p true) (0, 1) := by
    intro p
    refine Ev.step (f := fun _ => some (0, 1)) (fun k => ?_) (Ev.now _)
    simp only [reals_check.j0]; rw [if_pos trivial]
  rcases er_or s with hs | hs
  · by_cases h0 : how < 0
    · rw [if_neg (by omega)]
      refine Ev.congr (fun k => ?_) (bad (pd s))
      unfold reals_check.f; rw [pdigits_is]; simp only [Option.bind_some]; rw [if_pos hs, if_pos h0]
    · by_cases h3 : how > 3
      · rw [if_neg (by omega)]
        refine Ev.congr (fun k => ?_) (bad (pd s))
        unfold reals_check.f; rw [pdigits_is]; simp only [Option.bind_some]; rw [if_pos hs, if_neg h0, decide_eq_true h3]
      · rw [if_pos ⟨hs, by omega, by omega⟩]
        refine Ev.congr (f := fun k => reals_check.j0 k s l (pd s) false) (fun k => ?_) ?_
        · unfold reals_check.f; rw [pdigits_is]; simp only [Option.bind_some]; rw [if_pos hs, if_neg h0, decide_eq_false h3]
        refine Ev.step (fun k => ?_) (check_l0 s hs l hl hn l.length 0 (by omega))
        simp only [reals_check.j0]; rw [if_neg (by simp)]; rfl
  · rw [if_neg (by omega)]
    refine Ev.congr (fun k => ?_) (bad (pd s))
    unfold reals_check.f; rw [pdigits_is]; simp only [Option.bind_some]; rw [if_neg (by omega)]
theorem plus_is {n m : Nat} (h : n + m < 340282366920938463463374607431768211456) : reals_wide_plus.f (hiw n) (low n) (hiw m) (low m) = some (hiw (n + m), low (n + m)) := by
  unfold reals_wide_plus.f
  have h1 := hl_u (n := n) (by omega)
  have h2 := hl_u (n := m) (by omega)
  rw [if_pos ⟨h1.1, h1.2, h2.1, h2.2⟩]
  unfold hiw low u64s
  congr 2 <;> omega
theorem cutS_is {n : Nat} (h : n < 340282366920938463463374607431768211456) (d : Nat) (more : Bool) : cutS n d more = cutG n d more := by
  unfold cutS cutG
  by_cases h0 : d = 0
  · rw [if_pos h0, if_pos h0]
  · rw [if_neg h0, if_neg h0]
    by_cases h1 : 38 < d
    · rw [if_pos h1]
      have h39 : 10 ^ 39 ≤ 10 ^ d := Nat.pow_le_pow_right (by decide) h1
      have hlt : n < 10 ^ d := by omega
      rw [Nat.div_eq_of_lt hlt, Nat.mod_eq_of_lt hlt]
      have : sdS n (10 ^ d) more = -1 := by unfold sdS; rw [if_neg (by omega), if_pos (by omega)]
      rw [this]
    · rw [if_neg h1]; rfl
theorem pcut_is {n : Nat} (h : n < 340282366920938463463374607431768211456) {d : Nat} (hd : d ≤ 1000000) (more : Bool) : reals_wide_cut.f (hiw n) (low n) (d : Int) more = some (hiw (cutG n d more).1, low (cutG n d more).1, (cutG n d more).2) := by
  unfold reals_wide_cut.f
  rw [if_pos ⟨hl_u h, by omega, by omega⟩, wv_hl, Int.toNat_natCast, cutS_is h]
theorem and_one (z : Int) (h0 : 0 ≤ z) (h1 : z < 18446744073709551616) : Go.bits .and .u64 z 1 = z % 2 := by
  obtain ⟨n, rfl⟩ := Int.eq_ofNat_of_zero_le h0
  have h := bits_and_u64_nat n 1 (by omega) (by decide)
  rw [show (1 : Int) = ((1 : Nat) : Int) from rfl, h, Nat.and_one_is_mod]; rfl
theorem paway_is (how : Int) (h0 : 0 ≤ how) (h3 : how ≤ 3) (neg : Bool) (x y z : Int) (b : Bool) (odd : Bool) (half : Int) (left : Bool) : reals_exact_away.f neg x y z b how odd half left = some (awayS how neg odd half left) := by
  unfold reals_exact_away.f awayS
  have hh : how = 0 ∨ how = 1 ∨ how = 2 ∨ how = 3 := by omega
  rcases hh with rfl | rfl | rfl | rfl
  · rw [if_pos rfl, if_pos rfl]
    by_cases h : half > 0
    · rw [if_pos h, decide_eq_true h]; rfl
    · rw [if_neg h, decide_eq_false h]
      by_cases h' : half = 0
      · rw [if_pos h', decide_eq_true h']; rfl
      · rw [if_neg h', decide_eq_false h']; rfl
  · cases neg <;> cases left <;> rfl
  · cases neg <;> cases left <;> rfl
  · cases neg <;> cases left <;> rfl
theorem over_ev {n c : Nat} (hn : n < 340282366920938463463374607431768211456) (hc0 : 0 < c) (hc : c < 18446744073709551616) : Ev (fun k => reals_wide_over.f k (hiw n) (low n) c) (hiw (n / c), low (n / c), ((n % c : Nat) : Int)) :=
  ⟨14, fun k hk => by obtain ⟨j, rfl⟩ : ∃ j, k = j + 14 := ⟨k - 14, by omega⟩; exact over_is hn hc0 hc j⟩
theorem power_ev {d : Nat} (hd : d ≤ 38) : Ev (fun k => reals_power.f k d) (hiw (10 ^ d), low (10 ^ d)) := ⟨d + 1, fun k hk => power_is hd k (by omega)⟩
theorem scaled_ev {n d : Nat} (hd : d ≤ 1000) (h : n * 10 ^ d < 340282366920938463463374607431768211456) : Ev (fun k => reals_wide_scaled.f k (hiw n) (low n) d) (hiw (n * 10 ^ d), low (n * 10 ^ d)) := ⟨d + 1, fun k hk => scaled_is hd h k (by omega)⟩
theorem round_l0 (neg : Bool) (y z u : Int) (b : Bool) : ∀ (q : Nat) (t : Int), q ≠ 0 → q ≤ 1000000000000000000 → -100000 ≤ t → t + dg q ≤ 100000 → Ev (fun k => reals_exact_round.l0 k t neg y z u b (hiw q) (low q)) (flat (real neg (strip q t))) := by
  intro q
  induction q using Nat.strongRecOn with
  | ind q ih =>
    intro t hq hq2 ht ht2
    have hp := dg_pos hq
    have hs := hl_small (n := q) (by omega)
    by_cases h0 : q % 10 = 0
    · rw [show strip q t = strip (q / 10) (t + 1) by rw [strip, dif_neg hq, if_pos h0]]
      refine Ev.step (f := fun k => (reals_wide_over.f k (hiw q) (low q) 10).bind fun bt151 => (if bt151.2.2 = 0 then (reals_exact_round.l0 k (wrap64 (t + 1)) neg y z u b bt151.1 bt151.2.1) else (if neg = true then (some (wrap64 (-(wrap64 (low q))), t, 0)) else (some (wrap64 (low q), t, 0))))) (fun k => ?_) ?_
      · simp only [reals_exact_round.l0]
      refine Ev.bind (over_ev (c := 10) (by omega) (by decide) (by decide)) ?_
      rw [h0, x64 (by omega) (by omega)]
      exact ih (q / 10) (by omega) (t + 1) (by omega) (by omega) (by omega) (by omega)
    · rw [show strip q t = (q, t) by rw [strip, dif_neg hq, if_neg h0]]
      refine Ev.step (f := fun k => (reals_wide_over.f k (hiw q) (low q) 10).bind fun bt151 => (if bt151.2.2 = 0 then (reals_exact_round.l0 k (wrap64 (t + 1)) neg y z u b bt151.1 bt151.2.1) else (if neg = true then (some (wrap64 (-(wrap64 (low q))), t, 0)) else (some (wrap64 (low q), t, 0))))) (fun k => ?_) ?_
      · simp only [reals_exact_round.l0]
      refine Ev.bind (over_ev (c := 10) (by omega) (by decide) (by decide)) ?_
      have hq9 : q < 1000000000000000000 := by omega
      have hne : ¬ (((q % 10 : Nat) : Int) = 0) := by omega
      have hw1 : wrap64 (q : Int) = q := x64 (by clear hs; omega) (by clear hs; omega)
      have hw2 : wrap64 (-(q : Int)) = -q := x64 (by clear hs hw1; omega) (by clear hs hw1; omega)
      simp only [if_neg hne, hs.2, hw1, hw2]
      unfold flat real sgn
      cases neg
      · simp only [Bool.false_eq_true, if_false]; exact Ev.now _
      · simp only [if_true]; exact Ev.now _
theorem round_j3 (neg : Bool) (y z u : Int) (b : Bool) (q : Nat) (t : Int) (hq : q ≠ 0) (hq2 : q ≤ 1000000000000000000) (ht : -50000 ≤ t) (ht2 : t ≤ 50000) : Ev (fun k => reals_exact_round.j3 k t neg y z u b (hiw q) (low q)) (flat (real neg (strip q t))) := by
  have := dg_small (n := q) (by omega)
  refine Ev.step (fun k => ?_) (round_l0 neg y z u b q t hq hq2 (by omega) (by omega))
  simp only [reals_exact_round.j3]
theorem round_j2 (p : Nat) (hp : p ≤ 18) (hp0 : p ≠ 0) (x neg : Bool) (y z u : Int) (b : Bool) : Ev (fun k => reals_exact_round.j2 k (p : Int) x neg y z u b) (flat (if x = true then ((0, 0), 11) else real neg (10 ^ p - 1, 400))) := by
  cases x
  · have h18 : 10 ^ p ≤ 10 ^ 18 := Nat.pow_le_pow_right (by decide) hp
    have h10 : 10 ^ p = 10 * 10 ^ (p - 1) := by rw [Nat.mul_comm, ← Nat.pow_succ]; congr 1; omega
    have hz := p10 (p - 1)
    refine Ev.step (f := fun k => (reals_power.f k p).bind fun bt147 => (reals_wide_minus.f bt147.1 bt147.2 0 1).bind fun bt149 => reals_exact_round.j3 k 400 neg y z u b bt149.1 bt149.2) (fun k => ?_) ?_
    · simp only [reals_exact_round.j2]; rw [if_neg (by simp)]
    refine Ev.bind (power_ev (by omega)) ?_
    have hm := minus_is (n := 10 ^ p) (m := 1) (by omega) (by omega)
    rw [show hiw 1 = 0 from rfl, show low 1 = 1 from rfl] at hm
    dsimp only
    rw [hm]; simp only [Option.bind_some]
    have h := round_j3 neg y z u b (10 ^ p - 1) 400 (by omega) (by omega) (by omega) (by omega)
    rw [strip_ok (fun h => by omega) (fun _ => by omega)] at h
    exact h
  · refine Ev.step (f := fun _ => some (0, 0, 11)) (fun k => ?_) (Ev.now _)
    simp only [reals_exact_round.j2]; rw [if_pos trivial]
theorem round_j1 (p : Nat) (hp : p ≤ 18) (hp0 : p ≠ 0) (how : Int) (h0 : 0 ≤ how) (h3 : how ≤ 3) (neg : Bool) (y z u : Int) (b : Bool) (q : Nat) (hq : q ≤ 1000000000000000000) (t : Int) (ht : -50000 ≤ t) (ht2 : t ≤ 50000) :
    Ev (fun k => reals_exact_round.j1 k (p : Int) how t neg y z u b (hiw q) (low q)) (flat (if q = 0 then ((0, 0), 0) else if dg q + max (t - 400) 0 > p then (if how = 0 ∨ how = 1 ∧ neg = false ∨ how = 2 ∧ neg = true then ((0, 0), 11) else real neg (10 ^ p - 1, 400)) else real neg (strip q t))) := by
  have hs := hl_small (n := q) (by omega)
  have hd := dg_small (n := q) (by omega)
  by_cases hz : q = 0
  · subst hz
    refine Ev.step (f := fun _ => some (0, 0, 0)) (fun k => ?_) (Ev.now _)
    simp only [reals_exact_round.j1]; rw [if_pos (by decide)]
  · have hb : ¬ ((hiw q == 0 && (low q == 0)) = true) := by
      rw [hs.2, Bool.and_eq_true, beq_iff_eq, beq_iff_eq]; omega
    have hdg := pdig_is (n := q) (by omega)
    have hw : Aside0 (wrap64 (((dg q : Nat) : Int) + (mx (wrap64 (t - 400)) 0)) = (dg q : Int) + max (t - 400) 0) := ⟨by
      rw [x64 (n := t - 400) (by omega) (by omega)]
      have : mx (t - 400) 0 = max (t - 400) 0 := by unfold mx; split <;> omega
      rw [this]; exact x64 (by omega) (by omega)⟩
    rw [if_neg hz]
    by_cases ho : (dg q : Int) + max (t - 400) 0 > p
    · rw [if_pos ho]
      have key : ∀ x : Bool, (∀ k, reals_exact_round.j1 (k + 1) (p : Int) how t neg y z u b (hiw q) (low q) = reals_exact_round.j2 k (p : Int) x neg y z u b) → (x = true ↔ (how = 0 ∨ how = 1 ∧ neg = false ∨ how = 2 ∧ neg = true)) → Ev (fun k => reals_exact_round.j1 k (p : Int) how t neg y z u b (hiw q) (low q)) (flat (if how = 0 ∨ how = 1 ∧ neg = false ∨ how = 2 ∧ neg = true then ((0, 0), 11) else real neg (10 ^ p - 1, 400))) := by
        intro x hx hiff
        have h : Ev (fun k => reals_exact_round.j1 k (p : Int) how t neg y z u b (hiw q) (low q)) _ := Ev.step hx (round_j2 p hp hp0 x neg y z u b)
        by_cases hc : how = 0 ∨ how = 1 ∧ neg = false ∨ how = 2 ∧ neg = true
        · rw [if_pos (hiff.2 hc)] at h; rw [if_pos hc]; exact h
        · rw [if_neg (fun h => hc (hiff.1 h))] at h; rw [if_neg hc]; exact h
      have hh : how = 0 ∨ how = 1 ∨ how = 2 ∨ how = 3 := by omega
      rcases hh with rfl | rfl | rfl | rfl
      · refine key true (fun k => ?_) (by simp)
        simp only [reals_exact_round.j1]; rw [if_neg hb, hdg]; simp only [Option.bind_some]; rw [hw.out, if_pos ho, if_pos trivial]
      · refine key (!neg) (fun k => ?_) (by cases neg <;> simp)
        simp only [reals_exact_round.j1]; rw [if_neg hb, hdg]; simp only [Option.bind_some]; rw [hw.out, if_pos ho, if_neg (by decide), if_pos trivial]
        cases neg
        · rw [if_neg (by decide)]; rfl
        · rw [if_pos rfl, if_neg (by decide)]; rfl
      · refine key neg (fun k => ?_) (by cases neg <;> simp)
        simp only [reals_exact_round.j1]; rw [if_neg hb, hdg]; simp only [Option.bind_some]; rw [hw.out, if_pos ho, if_neg (by decide), if_neg (by decide), if_pos trivial]
      · refine key false (fun k => ?_) (by simp)
        simp only [reals_exact_round.j1]; rw [if_neg hb, hdg]; simp only [Option.bind_some]; rw [hw.out, if_pos ho, if_neg (by decide), if_neg (by decide), if_neg (by decide)]
    · rw [if_neg ho]
      refine Ev.step (fun k => ?_) (round_j3 neg y z u b q t hz hq ht ht2)
      simp only [reals_exact_round.j1]; rw [if_neg hb, hdg]; simp only [Option.bind_some]; rw [hw.out, if_neg ho]
theorem round_j0 (p : Nat) (hp : p ≤ 18) (hp0 : p ≠ 0) (how : Int) (h0 : 0 ≤ how) (h3 : how ≤ 3) (neg : Bool) (y z u : Int) (b : Bool) (q : Nat) (hq : q ≤ 10 ^ p) (d : Int) (ht : -40000 ≤ u + d) (ht2 : u + d ≤ 40000) :
    Ev (fun k => reals_exact_round.j0 k (p : Int) how d neg y z u b (hiw q) (low q)) (flat (fin p how neg q (u + d))) := by
  have h18 : 10 ^ p ≤ 10 ^ 18 := Nat.pow_le_pow_right (by decide) hp
  have hdg := pdig_is (n := q) (by omega)
  have hw : Aside0 (wrap64 (u + d) = u + d) := ⟨x64 (by omega) (by omega)⟩
  have hw2 : Aside0 (wrap64 (u + d + 1) = u + d + 1) := ⟨x64 (by omega) (by omega)⟩
  rw [← finP_is hp0 how neg hq]
  unfold finP
  by_cases h : dg q > p
  · simp only [if_pos h]
    refine Ev.step (f := fun k => (reals_wide_over.f k (hiw q) (low q) 10).bind fun bt143 => reals_exact_round.j1 k p how (u + d + 1) neg y z u b bt143.1 bt143.2.1) (fun k => ?_) ?_
    · simp only [reals_exact_round.j0]; rw [hdg]; simp only [Option.bind_some]; rw [if_pos (by omega), hw.out, hw2.out]
    refine Ev.bind (over_ev (c := 10) (by omega) (by decide) (by decide)) ?_
    exact round_j1 p hp hp0 how h0 h3 neg y z u b (q / 10) (by omega) (u + d + 1) (by omega) (by omega)
  · simp only [if_neg h]
    refine Ev.step (fun k => ?_) (round_j1 p hp hp0 how h0 h3 neg y z u b q (by omega) (u + d) (by omega) (by omega))
    simp only [reals_exact_round.j0]; rw [hdg]; simp only [Option.bind_some]; rw [if_neg (by omega), hw.out]
theorem round_step (k : Nat) (neg : Bool) (H L e : Int) (more : Bool) (p how t d CH CL half : Int) (ine odd a : Bool) (hdg : reals_wide_digits.f H L = some t) (hdrop : mx (mx (wrap64 (t - p)) (wrap64 ((-400) - e))) 0 = d) (hcut : reals_wide_cut.f H L d more = some (CH, CL, half, ine)) (hodd : ((Go.bits .and .u64 CL 1) == 1) = odd) (ha : reals_exact_away.f neg H L e more how odd half ine = some a) :
    reals_exact_round.f k neg H L e more p how = if a = true then ((reals_wide_plus.f CH CL 0 1).bind fun bt140 => (reals_exact_round.j0 k p how d neg H L e more bt140.1 bt140.2)) else (reals_exact_round.j0 k p how d neg H L e more CH CL) := by
  unfold reals_exact_round.f; rw [hdg]; simp only [Option.bind_some]; rw [hdrop, hcut]; simp only [Option.bind_some]; rw [hodd, ha]; simp only [Option.bind_some]
theorem round_is {s : Int} (hs : er s = 0) (how : Int) (h0 : 0 ≤ how) (h3 : how ≤ 3) (neg : Bool) {n : Nat} (hn : n < 340282366920938463463374607431768211456) (e : Int) (he : -15000 ≤ e) (he2 : e ≤ 15000) (more : Bool) :
    Ev (fun k => reals_exact_round.f k neg (hiw n) (low n) e more (pd s) how) (flat (rnd (pd s) how neg n e more)) := by
  have hp := pd_of hs
  have hd := dg_small (n := n) (by omega)
  have hdg := pdig_is hn
  have hdrop : Aside0 (mx (mx (wrap64 (((dg n : Nat) : Int) - (pd s : Int))) (wrap64 ((-400) - e))) 0 = ((dropS (pd s) n e : Nat) : Int)) := ⟨by
    rw [x64 (n := ((dg n : Nat) : Int) - (pd s : Int)) (by omega) (by omega), x64 (by omega) (by omega)]
    unfold mx dropS; split <;> split <;> omega⟩
  have hD : dropS (pd s) n e ≤ 20000 := by unfold dropS; omega
  have hcut := pcut_is hn (d := dropS (pd s) n e) (by omega) more
  have hup := up_lt (pd s) how neg n e more
  have h18 : 10 ^ pd s ≤ 10 ^ 18 := Nat.pow_le_pow_right (by decide) (by omega)
  have hg : -400 ≤ e + (dropS (pd s) n e : Int) := by unfold dropS; omega
  unfold rnd
  generalize hc : cutG n (dropS (pd s) n e) more = c at *
  have hq0 : c.1 ≤ n := by
    rw [← hc]; unfold cutG; split
    · exact Nat.le_refl _
    · exact Nat.div_le_self _ _
  have hu := hl_u (n := c.1) (by omega)
  have hodd : ((Go.bits .and .u64 (low c.1) 1) == 1) = decide (c.1 % 2 = 1) := by
    have := hu.2.out; unfold u64s at this
    rw [and_one _ this.1 this.2, Bool.eq_iff_iff, beq_iff_eq, decide_eq_true_eq]
    unfold low; omega
  have hj := round_j0 (pd s) (by omega) (by omega) how h0 h3 neg (hiw n) (low n) e more (up how neg c) hup (dropS (pd s) n e) (by omega) (by omega)
  refine Ev.congr (f := fun k => if awayS how neg (decide (c.1 % 2 = 1)) c.2.1 c.2.2 = true then ((reals_wide_plus.f (hiw c.1) (low c.1) 0 1).bind fun bt140 => (reals_exact_round.j0 k (pd s) how (dropS (pd s) n e : Nat) neg (hiw n) (low n) e more bt140.1 bt140.2)) else (reals_exact_round.j0 k (pd s) how (dropS (pd s) n e : Nat) neg (hiw n) (low n) e more (hiw c.1) (low c.1))) (fun k => ?_) ?_
  · exact round_step k neg _ _ e more _ how _ _ _ _ _ _ _ _ hdg hdrop.out hcut hodd (paway_is how h0 h3 neg _ _ e more _ _ _)
  by_cases ha : awayS how neg (decide (c.1 % 2 = 1)) c.2.1 c.2.2 = true
  · have huu : up how neg c = c.1 + 1 := by unfold up; rw [if_pos ha]
    have hpl := plus_is (n := c.1) (m := 1) (by omega)
    rw [show hiw 1 = 0 from rfl, show low 1 = 1 from rfl] at hpl
    refine Ev.congr (fun k => ?_) hj
    rw [if_pos ha, hpl, huu]; rfl
  · have huu : up how neg c = c.1 := by unfold up; rw [if_neg ha]; rfl
    refine Ev.congr (fun k => ?_) hj
    rw [if_neg ha, huu]
def k8 : Nat := 800
theorem k8_is : k8 = 800 := rfl
/-- the value of a number above 0, in units of 10 to the power of -400 -/
def V (x : Nat × Int) : Nat := x.1 * 10 ^ (x.2 + 400).toNat
def finM (p : Nat) (s : Bool) (q : Nat) (t : Int) : Option (Nat × Int) := if q = 0 then some (0, 0) else if dg q + t > p + 400 then (if s = true then some (10 ^ p - 1, 400) else none) else some (strip q t)
def sat (how : Int) (neg : Bool) : Bool := !(decide (how = 0) || (decide (how = 1) && !neg) || (decide (how = 2) && neg))
def outM (neg : Bool) : Option (Nat × Int) → (Int × Int) × Int | none => ((0, 0), 11) | some x => real neg x
theorem fin_out (p : Nat) (how : Int) (neg : Bool) (q : Nat) (t : Int) : fin p how neg q t = outM neg (finM p (sat how neg) q t) := by
  unfold fin finM
  by_cases hz : q = 0
  · rw [if_pos hz, if_pos hz]; unfold outM real sgn; cases neg <;> rfl
  · rw [if_neg hz, if_neg hz]
    by_cases h : dg q + t > p + 400
    · rw [if_pos h, if_pos h]
      by_cases hs : how = 0 ∨ how = 1 ∧ neg = false ∨ how = 2 ∧ neg = true
      · have : sat how neg = false := by unfold sat; rcases hs with h | ⟨h, h'⟩ | ⟨h, h'⟩ <;> simp [*]
        rw [if_pos hs, this]; rfl
      · have : sat how neg = true := by
          unfold sat; cases neg <;> simp_all
        rw [if_neg hs, this]; rfl
    · rw [if_neg h, if_neg h]; rfl
theorem V_strip (q : Nat) (t : Int) (ht : -400 ≤ t) : V (strip q t) = q * 10 ^ (t + 400).toNat := by
  by_cases h : q = 0
  · subst h; rw [strip, dif_pos rfl, V, Nat.zero_mul, Nat.zero_mul]
  · obtain ⟨k, a, b, c⟩ := strip_val q t h
    unfold V
    rw [b, show (t + k + 400).toNat = k + (t + 400).toNat by omega, Nat.pow_add, ← Nat.mul_assoc, ← a]
theorem V_ok {p n : Nat} {e : Int} (h : Ok p n e) : V (n, e) ≤ (10 ^ p - 1) * 10 ^ k8 := by
  unfold V
  simp only
  by_cases he : e ≤ 400
  · have h1 : 10 ^ (e + 400).toNat ≤ 10 ^ k8 := Nat.pow_le_pow_right (by decide) (by have := k8_is; omega)
    have h2 := dg_le_iff.1 h.d
    exact Nat.mul_le_mul (by omega) h1
  · obtain ⟨k, hk⟩ : ∃ k : Nat, e = 400 + k := ⟨(e - 400).toNat, by omega⟩
    subst hk
    rw [show ((400 : Int) + k + 400).toNat = k + k8 by have := k8_is; omega, Nat.pow_add, ← Nat.mul_assoc]
    refine Nat.mul_le_mul_right _ ?_
    have h2 := h.h
    have h3 : n * 10 ^ k < 10 ^ p := by
      by_cases hz : n = 0
      · rw [hz, Nat.zero_mul]; exact p10 p
      · rw [← dg_le_iff, dg_mul hz]; omega
    omega
theorem finM_val {p : Nat} (hp : p ≠ 0) {s : Bool} {q : Nat} (hq : q ≤ 10 ^ p) {t : Int} (ht : -400 ≤ t) {x : Nat × Int} (h : finM p s q t = some x) : V x = min (q * 10 ^ (t + 400).toNat) ((10 ^ p - 1) * 10 ^ k8) ∧ Ok p x.1 x.2 := by
  unfold finM at h
  by_cases hz : q = 0
  · rw [if_pos hz] at h; cases h; subst hz
    refine ⟨by rw [V, Nat.zero_mul, Nat.zero_mul, Nat.zero_min], fun _ => rfl, fun h => absurd rfl h, by rw [dg_zero]; omega, by decide, by rw [dg_zero]; show (0 : Int) + 0 ≤ _; omega⟩
  · rw [if_neg hz] at h
    by_cases ho : dg q + t > p + 400
    · rw [if_pos ho] at h
      cases s
      · cases h
      · simp only [if_true, Option.some.injEq] at h; subst h
        have z := p10 p
        have z1 : 1 < 10 ^ p := Nat.one_lt_pow hp (by decide)
        have hd : dg (10 ^ p - 1) = p := dg_is (by omega) (.inr (by
          have h1 : 10 ^ p = 10 ^ (p - 1) * 10 := by rw [← Nat.pow_succ]; congr 1; omega
          have := p10 (p - 1)
          omega))
        refine ⟨?_, fun h => by simp only at h; omega, fun _ => ?_, by rw [hd]; omega, (by decide : (-400 : Int) ≤ 400), by rw [hd]; simp only; omega⟩
        · have h1 : V (10 ^ p - 1, 400) = (10 ^ p - 1) * 10 ^ k8 := by rw [V, k8_is]; congr 1
          rw [h1, Nat.min_eq_right]
          have h2 := dg_le hz
          have h3 : 10 ^ (p + k8) ≤ 10 ^ (dg q - 1 + (t + 400).toNat) := Nat.pow_le_pow_right (by decide) (by have := k8_is; omega)
          rw [Nat.pow_add, Nat.pow_add (m := dg q - 1)] at h3
          calc (10 ^ p - 1) * 10 ^ k8 ≤ 10 ^ p * 10 ^ k8 := Nat.mul_le_mul_right _ (by omega)
            _ ≤ _ := h3
            _ ≤ _ := Nat.mul_le_mul_right _ h2
        · have h1 : 10 ^ p = 10 ^ (p - 1) * 10 := by rw [← Nat.pow_succ]; congr 1; omega
          simp only; rw [h1]; have := p10 (p - 1); omega
    · rw [if_neg ho] at h; cases h
      have hk := strip_is_ok hz hq hp ht (by omega)
      refine ⟨?_, hk⟩
      rw [V_strip q t ht, Nat.min_eq_left]
      rw [← V_strip q t ht]; exact V_ok hk
/-- the magnitude of a rounded number -/
def rndM (p : Nat) (how : Int) (neg : Bool) (n : Nat) (e : Int) (more : Bool) : Option (Nat × Int) := finM p (sat how neg) (up how neg (cutG n (dropS p n e) more)) (e + dropS p n e)
theorem rnd_out (p : Nat) (how : Int) (neg : Bool) (n : Nat) (e : Int) (more : Bool) : rnd p how neg n e more = outM neg (rndM p how neg n e more) := by
  unfold rnd rndM; exact fin_out ..
theorem drop_ge (p n : Nat) (e : Int) : -400 ≤ e + dropS p n e := by unfold dropS; omega
theorem rndM_ok {p : Nat} (hp : p ≠ 0) {how : Int} {neg : Bool} {n : Nat} {e : Int} {more : Bool} {x : Nat × Int} (h : rndM p how neg n e more = some x) : Ok p x.1 x.2 :=
  (finM_val hp (up_lt p how neg n e more) (drop_ge p n e) h).2
theorem dg_mono' {n1 n2 : Nat} (h : n1 ≤ n2) : dg n1 ≤ dg n2 := by
  rw [dg_le_iff]; exact Nat.lt_of_le_of_lt h (dg_lt n2)
/-- the value of a list of any numbers -/
def vI : List Int → Int | [] => 0 | d :: l => d + 10 * vI l
theorem vI_zeros (n : Nat) : vI (List.replicate n 0) = 0 := by
  induction n with | zero => rfl | succ n ih => rw [List.replicate_succ, vI, ih]; rfl
theorem vI_set : ∀ (l : List Int) (i : Nat) (x : Int), i < l.length → vI (l.set i x) = vI l + 10 ^ i * (x - l.getD i 0) := by
  intro l
  induction l with
  | nil => intro i x h; simp at h
  | cons d l ih =>
    intro i x h
    cases i with
    | zero => simp only [List.set_cons_zero, vI, List.getD_cons_zero, Int.pow_zero]; omega
    | succ i =>
      simp only [List.set_cons_succ, vI, List.getD_cons_succ]
      rw [ih i x (by simpa using h), Int.pow_succ, Int.mul_add, ← Int.mul_assoc, Int.mul_comm 10 (10 ^ i)]; omega
theorem vI_dg {l : List Int} (h : Dg l) : vI l = (vl l : Int) := by
  induction l with
  | nil => rfl
  | cons d l ih => have := h.head; simp only [vI, vl, ih h.tail]; omega
theorem getD_set (l : List Int) (i k : Nat) (x : Int) (h : i < l.length) : (l.set i x).getD k 0 = if k = i then x else l.getD k 0 := by
  rw [List.getD_eq_getElem?_getD, List.getD_eq_getElem?_getD, List.getElem?_set]
  by_cases e : i = k
  · subst e; rw [if_pos rfl, if_pos h, if_pos rfl]; rfl
  · rw [if_neg e, if_neg (fun h => e h.symm)]
theorem rd_set (l : List Int) (i : Nat) (k : Nat) (x : Int) (h : i < l.length) : rd (l.set i x) (k : Int) = if k = i then x else rd l (k : Int) := by
  rw [rd_nat, rd_nat, getD_set l i k x h]
/-- the value is at least that of one place -/
theorem vI_ge : ∀ (l : List Int) (i : Nat), (∀ k : Nat, 0 ≤ l.getD k 0) → 10 ^ i * l.getD i 0 ≤ vI l := by
  intro l
  induction l with
  | nil => intro i _; simp [vI]
  | cons d l ih =>
    intro i h
    have hl : ∀ k : Nat, 0 ≤ l.getD k 0 := fun k => by have := h (k + 1); simpa using this
    have hd : 0 ≤ d := by have := h 0; simpa using this
    cases i with
    | zero =>
      have := ih 0 hl
      have h0 := hl 0
      simp only [List.getD_cons_zero, Int.pow_zero, vI] at *; omega
    | succ i =>
      have := ih i hl
      simp only [List.getD_cons_succ, vI]
      rw [Int.pow_succ, Int.mul_comm (10 ^ i) 10, Int.mul_assoc]; omega
/-- the carries -/
theorem times_l2 (v N B : Nat) (hN : N ≤ 200000) (hB : B ≤ 100000000000) (hv : v < 10 ^ N) : ∀ (n i : Nat) (out : List Int), out.length = N → i + n = N → vI out = (v : Int) → (∀ k : Nat, 0 ≤ out.getD k 0) → (∀ k : Nat, k < i → out.getD k 0 < 10) → (∀ k : Nat, i < k → out.getD k 0 ≤ B) → (i < N → out.getD i 0 ≤ 2 * B) → i ≤ N - 1 →
    Ev (fun k => environref02_times.l2 k out (i : Int)) (dl v) := by
  intro n
  induction n with
  | zero =>
    intro i out hl hi hval h0 hlow _ _ hle
    have hN0 : N = 0 := by omega
    subst hN0
    obtain rfl : out = [] := List.eq_nil_of_length_eq_zero hl
    obtain rfl : v = 0 := by simpa using hv
    have hw : Aside0 (wrap64 ((([] : List Int).length : Int) - 1) = -1) := ⟨by rw [x64 (by simp) (by simp)]; rfl⟩
    refine Ev.step (f := fun k => (environref02_trim.f k []).bind fun t => some t) (fun k => ?_) ?_
    · simp only [environref02_times.l2]; rw [hw.out, if_neg (by omega)]
    exact Ev.bind (trim_is (l := []) (by simp) Dg.nil) (Ev.now _)
  | succ n ih =>
    intro i out hl hi hval h0 hlow hhigh hmid hle
    have hw : Aside0 (wrap64 ((out.length : Int) - 1) = ((N - 1 : Nat) : Int)) := ⟨by rw [x64 (by omega) (by omega)]; omega⟩
    by_cases hlast : i = N - 1
    · -- the end: all are digits
      have hdig : out.getD i 0 < 10 := by
        have h1 := vI_ge out i h0
        rw [hval] at h1
        refine Int.lt_of_not_ge fun h10 => ?_
        have h2 : (10 : Int) ^ i * 10 ≤ 10 ^ i * out.getD i 0 := Int.mul_le_mul_of_nonneg_left h10 (Int.le_of_lt (Int.pow_pos (by decide)))
        have h3 : (10 : Int) ^ i * 10 = ((10 ^ N : Nat) : Int) := by
          have hi1 : i.succ = N := by omega
          rw [← Int.pow_succ, hi1]; simp
        have h4 : ((v : Nat) : Int) < ((10 ^ N : Nat) : Int) := Int.ofNat_lt.2 hv
        omega
      have hd : Dg out := by
        intro x hx
        obtain ⟨k, hk, rfl⟩ := List.mem_iff_getElem.1 hx
        have e : out.getD k 0 = out[k] := by rw [List.getD_eq_getElem?_getD, List.getElem?_eq_getElem hk]; rfl
        rw [← e]
        refine ⟨h0 k, ?_⟩
        by_cases hk2 : k < i
        · exact hlow k hk2
        · rw [show k = i by omega]; exact hdig
      have hvl : vl out = v := by have := vI_dg hd; omega
      refine Ev.step (f := fun k => (environref02_trim.f k out).bind fun t => some t) (fun k => ?_) ?_
      · simp only [environref02_times.l2]; rw [hw.out, if_neg (by omega)]
      rw [← hvl]
      exact Ev.bind (trim_is (by omega) hd) (Ev.now _)
    · have e1 : Aside0 (wrap64 ((i : Int) + 1) = ((i + 1 : Nat) : Int)) := ⟨by rw [x64 (by omega) (by omega)]; omega⟩
      have a0 := h0 i; have a1 := h0 (i + 1); have m0 := hmid (by omega); have m1 := hhigh (i + 1) (by omega)
      have hi0 : i < out.length := by omega
      have hi1 : i + 1 < out.length := by omega
      have r0 : rd out (i : Int) = out.getD i 0 := rd_nat _ _
      have r1 : rd out ((i + 1 : Nat) : Int) = out.getD (i + 1) 0 := rd_nat _ _
      generalize hx : out.getD i 0 = x at *
      generalize hy : out.getD (i + 1) 0 = y at *
      have hs1 : Aside0 (wrap64 (y + wrap64 (Int.tdiv x 10)) = y + x / 10) := ⟨by
        rw [Int.tdiv_eq_ediv_of_nonneg a0, x64 (n := x / 10) (by omega) (by omega)]; exact x64 (by omega) (by omega)⟩
      have hl1 : (out.set (i + 1) (y + x / 10)).length = N := by rw [List.length_set]; exact hl
      have r2 : rd (out.set (i + 1) (y + x / 10)) (i : Int) = x := by rw [rd_set _ _ _ _ hi1, if_neg (by omega)]; exact r0
      have hm : Aside0 (Int.tmod x 10 = x % 10) := ⟨Int.tmod_eq_emod_of_nonneg a0⟩
      have hg : ∀ k : Nat, ((out.set (i + 1) (y + x / 10)).set i (x % 10)).getD k 0 = if k = i then x % 10 else if k = i + 1 then y + x / 10 else out.getD k 0 := by
        intro k
        rw [getD_set _ _ _ _ (by rw [List.length_set]; omega), getD_set _ _ _ _ hi1]
      refine Ev.step (f := fun k => environref02_times.l2 k ((out.set (i + 1) (y + x / 10)).set i (x % 10)) ((i + 1 : Nat) : Int)) (fun k => ?_) ?_
      · simp only [environref02_times.l2]
        rw [hw.out, if_pos (by omega), e1.out, if_pos (by omega), if_pos (by omega), if_pos (by omega), if_pos (by omega), r0, r1, hs1.out]
        simp only [Option.bind_some]
        rw [Int.toNat_natCast, Int.toNat_natCast, r2, hm.out]
      refine ih (i + 1) _ (by rw [List.length_set]; exact hl1) (by omega) ?_ ?_ ?_ ?_ ?_ (by omega)
      · rw [vI_set _ _ _ (by rw [List.length_set]; omega), vI_set _ _ _ hi1, getD_set _ _ _ _ hi1, if_neg (by omega), hx, hy, hval, Int.pow_succ]
        have : (10 : Int) ^ i * 10 * (y + x / 10 - y) = 10 ^ i * (10 * (x / 10)) := by rw [Int.mul_assoc]; congr 1; omega
        rw [this, Int.add_assoc, ← Int.mul_add, show 10 * (x / 10) + (x % 10 - x) = 0 by omega, Int.mul_zero, Int.add_zero]
      · intro k; rw [hg]; split
        · omega
        · split
          · omega
          · exact h0 k
      · intro k hk; rw [hg]; split
        · omega
        · rw [if_neg (by omega)]; exact hlow k (by omega)
      · intro k hk; rw [hg, if_neg (by omega), if_neg (by omega)]; exact hhigh k (by omega)
      · intro _; rw [hg, if_neg (by omega), if_pos rfl]; omega
theorem mod_succ (b j : Nat) : b % 10 ^ (j + 1) = b % 10 ^ j + 10 ^ j * (b / 10 ^ j % 10) := by
  rw [Nat.pow_succ, Nat.mod_mul]
/-- the products of the digits -/
theorem times_l01 (a b : Nat) (ha : dg a ≤ 50000) (hb : dg b ≤ 50000) : ∀ (n i : Nat) (out : List Int), i + n = dg a → out.length = dg a + dg b → vI out = ((a % 10 ^ i * b : Nat) : Int) → (∀ k : Nat, 0 ≤ out.getD k 0 ∧ out.getD k 0 ≤ 81 * i) →
    Ev (fun k => environref02_times.l0 k (dl a) (dl b) out (i : Int)) (dl (a * b)) := by
  intro n
  induction n with
  | zero =>
    intro i out hi hl hv hb2
    have hla := len_dl a
    have hai : a % 10 ^ i = a := Nat.mod_eq_of_lt (by rw [show i = dg a by omega]; exact dg_lt a)
    rw [hai] at hv
    refine Ev.step (f := fun k => environref02_times.l2 k out 0) (fun k => ?_) ?_
    · simp only [environref02_times.l0]; rw [if_neg (by omega)]
    have hlt : a * b < 10 ^ (dg a + dg b) := by
      rw [Nat.pow_add]
      have h1 := dg_lt a; have h2 := dg_lt b
      by_cases hz : b = 0
      · subst hz; rw [Nat.mul_zero]; exact Nat.mul_pos (p10 _) (p10 _)
      · exact Nat.lt_of_lt_of_le (Nat.mul_lt_mul_of_pos_right h1 (Nat.pos_of_ne_zero hz)) (Nat.mul_le_mul_left _ (Nat.le_of_lt h2))
    exact times_l2 (a * b) (dg a + dg b) (81 * i) (by omega) (by omega) hlt (dg a + dg b) 0 out hl (by omega) hv (fun k => (hb2 k).1) (fun k hk => by omega) (fun k _ => (hb2 k).2) (fun _ => by have := (hb2 0).2; omega) (by omega)
  | succ n ih =>
    intro i out hi hl hv hb2
    have hla := len_dl a
    have hlb := len_dl b
    have ra := rd_dl (n := a) (i := i) (by omega)
    have hsa := mod_succ a i
    have hda : a / 10 ^ i % 10 < 10 := Nat.mod_lt _ (by decide)
    have inner : ∀ (m j : Nat) (o : List Int), j + m = dg b → o.length = dg a + dg b → vI o = ((a % 10 ^ i * b + 10 ^ i * (a / 10 ^ i % 10) * (b % 10 ^ j) : Nat) : Int) → (∀ k : Nat, 0 ≤ o.getD k 0 ∧ o.getD k 0 ≤ 81 * (i + 1) ∧ (i + j ≤ k → o.getD k 0 ≤ 81 * i)) →
        Ev (fun k => environref02_times.l1 k (dl a) (dl b) o (i : Int) (j : Int)) (dl (a * b)) := by
      intro m
      induction m with
      | zero =>
        intro j o hj hlo hvo hbo
        have hbj : b % 10 ^ j = b := Nat.mod_eq_of_lt (by rw [show j = dg b by omega]; exact dg_lt b)
        have e1 : Aside0 (wrap64 ((i : Int) + 1) = ((i + 1 : Nat) : Int)) := ⟨by rw [x64 (by omega) (by omega)]; omega⟩
        refine Ev.step (f := fun k => environref02_times.l0 k (dl a) (dl b) o ((i + 1 : Nat) : Int)) (fun k => ?_) ?_
        · simp only [environref02_times.l1]; rw [if_neg (by omega), e1.out]
        refine ih (i + 1) o (by omega) hlo ?_ (fun k => ⟨(hbo k).1, by have := (hbo k).2.1; omega⟩)
        rw [hvo, hbj, hsa, Nat.add_mul]
      | succ m ihm =>
        intro j o hj hlo hvo hbo
        have rb := rd_dl (n := b) (i := j) (by omega)
        have hsb := mod_succ b j
        have hdb : b / 10 ^ j % 10 < 10 := Nat.mod_lt _ (by decide)
        have e1 : Aside0 (wrap64 ((j : Int) + 1) = ((j + 1 : Nat) : Int)) := ⟨by rw [x64 (by omega) (by omega)]; omega⟩
        have e2 : Aside0 (wrap64 ((i : Int) + (j : Int)) = ((i + j : Nat) : Int)) := ⟨by rw [x64 (by omega) (by omega)]; omega⟩
        have ro : rd o ((i + j : Nat) : Int) = o.getD (i + j) 0 := rd_nat _ _
        have hbk := hbo (i + j)
        have hbk3 := hbk.2.2 (Nat.le_refl _)
        generalize hP : a / 10 ^ i % 10 = da at *
        generalize hQ : b / 10 ^ j % 10 = db at *
        have hprod : da * db ≤ 81 := Nat.le_trans (Nat.mul_le_mul (show da ≤ 9 by omega) (show db ≤ 9 by omega)) (by decide)
        have e3 : Aside0 (wrap64 ((da : Int) * (db : Int)) = ((da * db : Nat) : Int)) := ⟨by rw [← Int.natCast_mul]; exact x64 (by omega) (by omega)⟩
        have e4 : Aside0 (wrap64 (o.getD (i + j) 0 + ((da * db : Nat) : Int)) = o.getD (i + j) 0 + ((da * db : Nat) : Int)) := ⟨x64 (by omega) (by omega)⟩
        have hij : i + j < o.length := by omega
        refine Ev.step (f := fun k => environref02_times.l1 k (dl a) (dl b) (o.set (i + j) (o.getD (i + j) 0 + ((da * db : Nat) : Int))) (i : Int) ((j + 1 : Nat) : Int)) (fun k => ?_) ?_
        · simp only [environref02_times.l1]
          rw [if_pos (by omega), e2.out, if_pos (by omega), if_pos (by omega), if_pos (by omega), if_pos (by omega), if_pos (by omega), ro, ra, rb, e3.out, e4.out, e1.out, Int.toNat_natCast]
        refine ihm (j + 1) _ (by omega) (by rw [List.length_set]; exact hlo) ?_ ?_
        · rw [vI_set _ _ _ hij, hvo, hsb, show o.getD (i + j) 0 + ((da * db : Nat) : Int) - o.getD (i + j) 0 = ((da * db : Nat) : Int) by omega]
          have : (10 : Int) ^ (i + j) = ((10 ^ (i + j) : Nat) : Int) := by simp
          rw [this, ← Int.natCast_mul, ← Int.natCast_add]
          congr 1
          rw [Nat.mul_add, Nat.pow_add, ← Nat.add_assoc]
          congr 1
          rw [Nat.mul_assoc, Nat.mul_assoc]
          congr 1
          rw [← Nat.mul_assoc, Nat.mul_comm (10 ^ j) da, Nat.mul_assoc]
        · intro k
          rw [getD_set _ _ _ _ hij]
          have := hbo k
          by_cases hk : k = i + j
          · rw [if_pos hk]; exact ⟨by omega, by omega, fun h => by omega⟩
          · rw [if_neg hk]; exact ⟨this.1, this.2.1, fun h => this.2.2 (by omega)⟩
    refine Ev.step (f := fun k => environref02_times.l1 k (dl a) (dl b) out (i : Int) 0) (fun k => ?_) ?_
    · simp only [environref02_times.l0]; rw [if_pos (by omega)]
    exact inner (dg b) 0 out (by omega) hl (by rw [hv, Nat.pow_zero, Nat.mod_one, Nat.mul_zero, Nat.add_zero]) (fun k => ⟨(hb2 k).1, by have := (hb2 k).2; omega, fun _ => by have := (hb2 k).2; omega⟩)
theorem times_is' {a b : Nat} (ha : dg a ≤ 50000) (hb : dg b ≤ 50000) : Ev (fun k => environref02_times.f k (dl a) (dl b)) (dl (a * b)) := by
  have h := times_l01 a b ha hb (dg a) 0 (List.replicate (dg a + dg b) 0) (by omega) (by rw [List.length_replicate]) (by rw [vI_zeros, Nat.pow_zero, Nat.mod_one, Nat.zero_mul]; rfl) (fun k => by
    rw [List.getD_eq_getElem?_getD, List.getElem?_replicate]; split <;> simp)
  have hw : Aside0 (wrap64 (((dl a).length : Int) + ((dl b).length : Int)) = ((dg a + dg b : Nat) : Int)) := ⟨by rw [len_dl, len_dl, x64 (by omega) (by omega)]; omega⟩
  refine Ev.congr (fun k => ?_) h
  unfold environref02_times.f
  rw [hw.out, if_pos (by omega), Int.toNat_natCast, if_pos (by omega)]; rfl
theorem divide_l0 (a b : Nat) (hb0 : b ≠ 0) (ha : dg a ≤ 50000) (hb : dg b ≤ 40000) : ∀ (n : Nat) (q : List Int) (R : Nat), n ≤ dg a → q.length + n = dg a → Dg q → a / 10 ^ n = vl q * b + R → R < b →
    Ev (fun k => environref02_divide.l0 k (dl a) (dl b) q (dl R) ((n : Int) - 1)) (dl (a / b), dl (a % b)) := by
  intro n
  induction n with
  | zero =>
    intro q R _ hl hd hq hR
    rw [Nat.pow_zero, Nat.div_one] at hq
    refine Ev.step (f := fun k => (environref02_trim.f k q).bind fun t => some (t, dl R)) (fun k => ?_) ?_
    · simp only [environref02_divide.l0]; rw [if_neg (by omega)]
    have h1 : a / b = vl q := by
      rw [hq, Nat.mul_comm, Nat.mul_add_div (Nat.pos_of_ne_zero hb0), Nat.div_eq_of_lt hR, Nat.add_zero]
    have h2 : a % b = R := by rw [hq, Nat.mul_comm, Nat.mul_add_mod, Nat.mod_eq_of_lt hR]
    rw [h1, h2]
    exact Ev.bind (trim_is (by omega) hd) (Ev.now _)
  | succ n ih =>
    intro q R hn hl hd hq hR
    have hla := len_dl a
    have hdR : dg R ≤ 40000 := Nat.le_trans (dg_mono' (Nat.le_of_lt hR)) hb
    have ra := rd_dl (n := a) (i := n) (by omega)
    have sa := div_succ a n
    generalize hA : a / 10 ^ n = A at *
    have hdA : A % 10 < 10 := Nat.mod_lt _ (by decide)
    rw [sa] at hq
    -- the digit of the quotient
    have inner : ∀ (m d X : Nat), X < (m + 1) * b → A = vl q * 10 * b + (d * b + X) → d + m ≤ 9 → Ev (fun k => environref02_divide.l1 k (dl a) (dl b) q (dl X) (n : Int) (d : Int)) (dl (a / b), dl (a % b)) := by
      intro m
      induction m with
      | zero =>
        intro d X hX hAX hdm
        rw [Nat.zero_add, Nat.one_mul] at hX
        have hdX : dg X ≤ 40000 := Nat.le_trans (dg_mono' (Nat.le_of_lt hX)) hb
        have e1 : Aside0 (wrap64 ((n : Int) - 1) = (n : Int) - 1) := ⟨x64 (by omega) (by omega)⟩
        refine Ev.step (f := fun k => (environref02_compare.f k (dl X) (dl b)).bind fun t522 => if t522 ≥ 0 then ((environref02_minus.f k (dl X) (dl b)).bind fun t523 => (environref02_divide.l1 k (dl a) (dl b) q t523 n (wrap64 ((d : Int) + 1)))) else environref02_divide.l0 k (dl a) (dl b) ((d : Int) :: q) (dl X) ((n : Int) - 1)) (fun k => ?_) ?_
        · simp only [environref02_divide.l1, Option.bind_some]
          have hlen : ([(d : Int)] : List Int).length + q.length < 17592186044416 := by simp; omega
          simp only [if_pos hlen, e1.out]; rfl
        refine Ev.bind (cmp_is' (by rw [len_dl]; omega) (by rw [len_dl]; omega)) ?_
        have hc : ¬ cmp X b ≥ 0 := by unfold cmp; rw [if_neg (by omega), if_pos hX]; decide
        simp only [if_neg hc]
        exact ih ((d : Int) :: q) X (by omega) (by rw [List.length_cons]; omega) (hd.cons (by omega) (by omega)) (by rw [hAX]; simp only [vl, Int.toNat_natCast]; rw [Nat.add_mul, Nat.mul_comm 10 (vl q)]; omega) hX
      | succ m ihm =>
        intro d X hX hAX hdm
        have hdX : dg X ≤ 45000 := by
          have h1 : X < 10 * 10 ^ dg b := Nat.lt_of_lt_of_le hX (Nat.mul_le_mul (by omega) (Nat.le_of_lt (dg_lt b)))
          rw [Nat.mul_comm, ← Nat.pow_succ] at h1
          have := dg_le_iff.2 h1; omega
        by_cases hlt : X < b
        · have := ihm d X (Nat.lt_of_lt_of_le hlt (by rw [Nat.add_mul, Nat.one_mul]; omega)) hAX (by omega)
          exact this
        · have e1 : Aside0 (wrap64 ((d : Int) + 1) = ((d + 1 : Nat) : Int)) := ⟨by rw [x64 (by omega) (by omega)]; omega⟩
          have hge : b ≤ X := by omega
          refine Ev.step (f := fun k => (environref02_compare.f k (dl X) (dl b)).bind fun t522 => if t522 ≥ 0 then ((environref02_minus.f k (dl X) (dl b)).bind fun t523 => (environref02_divide.l1 k (dl a) (dl b) q t523 n ((d + 1 : Nat) : Int))) else (some ([(d : Int)] : List Int)).bind fun y526 => (if y526.length + q.length < 17592186044416 then (environref02_divide.l0 k (dl a) (dl b) (y526 ++ q) (dl X) (wrap64 ((n : Int) - 1))) else (none))) (fun k => ?_) ?_
          · simp only [environref02_divide.l1, e1.out]
          refine Ev.bind (cmp_is' (by rw [len_dl]; omega) (by rw [len_dl]; omega)) ?_
          have hc : cmp X b ≥ 0 := by unfold cmp; split <;> (try split) <;> omega
          simp only [if_pos hc]
          refine Ev.bind (minus_is' (by omega) hge) ?_
          exact ihm (d + 1) (X - b) (by rw [Nat.add_mul, Nat.one_mul] at hX; omega) (by rw [hAX, Nat.add_mul, Nat.one_mul]; omega) (by omega)
    have hX : 10 * R + A % 10 < (9 + 1) * b := by omega
    have hin := inner 9 0 (10 * R + A % 10) hX (by rw [Nat.zero_mul, Nat.zero_add]; have := hq; rw [Nat.mul_assoc, Nat.mul_comm 10 b, ← Nat.mul_assoc]; omega) (by omega)
    have e : ((n + 1 : Nat) : Int) - 1 = (n : Int) := by omega
    rw [e]
    refine Ev.step (f := fun k => (environref02_trim.f k (((A % 10 : Nat) : Int) :: dl R)).bind fun t519 => environref02_divide.l1 k (dl a) (dl b) q t519 (n : Int) 0) (fun k => ?_) ?_
    · simp only [environref02_divide.l0, Option.bind_some]
      rw [if_pos (by omega), if_pos (by omega), if_pos (by omega), if_pos (by rw [len_dl]; simp; omega), ra]; rfl
    have ht := trim_is (l := ((A % 10 : Nat) : Int) :: dl R) (by rw [List.length_cons, len_dl]; omega) ((dg_dl R).cons (by omega) (by omega))
    rw [vl, vl_dl, Int.toNat_natCast, Nat.add_comm] at ht
    exact Ev.bind ht hin
theorem divide_is {a b : Nat} (hb0 : b ≠ 0) (ha : dg a ≤ 50000) (hb : dg b ≤ 40000) : Ev (fun k => environref02_divide.f k (dl a) (dl b)) (dl (a / b), dl (a % b)) := by
  have h := divide_l0 a b hb0 ha hb (dg a) [] 0 (Nat.le_refl _) (by simp) Dg.nil (by rw [Nat.div_eq_of_lt (dg_lt a)]; simp [vl]) (Nat.pos_of_ne_zero hb0)
  rw [dl_zero] at h
  refine Ev.congr (fun k => ?_) h
  unfold environref02_divide.f
  rw [len_dl, x64 (by omega) (by omega)]
/-- the answer of an operation whose numbers are right if ok -/
def opS (s how : Int) (ok : Bool) (r : Int × Int × Int) : Int × Int × Int := if er s = 0 ∧ 0 ≤ how ∧ how ≤ 3 then (if ok = true then r else (0, 0, 11)) else (0, 0, 1)
theorem okB_bd {p n : Nat} {e : Int} (h : okB p n e = true) (hp : p ≤ 18) : n < 1000000000000000000 ∧ dg n ≤ p ∧ -400 ≤ e ∧ e ≤ 418 ∧ Ok p n e := by
  unfold okB at h
  by_cases hz : n = 0
  · rw [if_pos hz, decide_eq_true_eq] at h
    subst hz; subst h
    exact ⟨by decide, by rw [dg_zero]; omega, by decide, by decide, fun _ => rfl, fun h => absurd rfl h, by rw [dg_zero]; omega, by decide, by rw [dg_zero]; omega⟩
  · rw [if_neg hz, decide_eq_true_eq] at h
    have h18 : 10 ^ p ≤ 10 ^ 18 := Nat.pow_le_pow_right (by decide) hp
    have hn := dg_le_iff.1 h.2.1
    exact ⟨by omega, h.2.1, h.2.2.1, by omega, fun h0 => absurd h0 hz, fun _ => h.1, h.2.1, h.2.2.1, h.2.2.2⟩
def I64 (m : Int) : Prop := -9223372036854775808 ≤ m ∧ m ≤ 9223372036854775807
/-- the reference's frame: right, then the operation -/
theorem ref_op {g : Nat → Int → Option (Int × Int × Int)} (s how m e n f : Int) (hm : I64 m) (hn : I64 n) (r : Int × Int × Int)
    (h : er s = 0 → 0 ≤ how → how ≤ 3 → okB (pd s) m.natAbs e = true → okB (pd s) n.natAbs f = true → Ev (fun k => g k 0) r) (h1 : ∀ k t, t ≠ 0 → g k t = some (0, 0, t)) :
    Ev (fun k => (environref02_right.f k s how m e n f).bind (g k)) (opS s how (okB (pd s) m.natAbs e && okB (pd s) n.natAbs f) r) := by
  refine Ev.bind (right_is s how m e n f hm.1 hm.2 hn.1 hn.2) ?_
  unfold rightS opS
  by_cases hc : er s = 0 ∧ 0 ≤ how ∧ how ≤ 3
  · rw [if_pos hc, if_pos hc]
    by_cases ho : (okB (pd s) m.natAbs e && okB (pd s) n.natAbs f) = true
    · rw [if_pos ho, if_pos ho]
      rw [Bool.and_eq_true] at ho
      exact h hc.1 hc.2.1 hc.2.2 ho.1 ho.2
    · rw [if_neg ho, if_neg ho]; exact Ev.congr (fun k => h1 k 11 (by decide)) (Ev.now _)
  · rw [if_neg hc, if_neg hc]; exact Ev.congr (fun k => h1 k 1 (by decide)) (Ev.now _)
/-- the program's frame: check, then the operation -/
theorem prog_op {g : Nat → Int × Int → Option (Int × Int × Int)} (s how : Int) (l : List S29) (hl : ∀ x ∈ l, -9223372036854775808 ≤ x.f0 ∧ x.f0 ≤ 9223372036854775807) (hn : l.length ≤ 1000) (ok : Bool) (hok : (l.all fun x => okB (pd s) x.f0.natAbs x.f1) = ok) (r : Int × Int × Int)
    (h : er s = 0 → 0 ≤ how → how ≤ 3 → ok = true → Ev (fun k => g k ((pd s : Int), 0)) r) (h1 : ∀ k t, t ≠ 0 → g k (0, t) = some (0, 0, t)) :
    Ev (fun k => (reals_check.f k s how l).bind (g k)) (opS s how ok r) := by
  refine Ev.bind (check_is s how l hl hn) ?_
  rw [hok]
  unfold checkS opS
  by_cases hc : er s = 0 ∧ 0 ≤ how ∧ how ≤ 3
  · rw [if_pos hc, if_pos hc]
    by_cases ho : ok = true
    · rw [if_pos ho, if_pos ho]; exact h hc.1 hc.2.1 hc.2.2 ho
    · rw [if_neg ho, if_neg ho]; exact Ev.congr (fun k => h1 k 11 (by decide)) (Ev.now _)
  · rw [if_neg hc, if_neg hc]; exact Ev.congr (fun k => h1 k 1 (by decide)) (Ev.now _)
def neg2 (m n : Int) : Bool := decide (m < 0) != decide (n < 0)
def mulS (s how m e n f : Int) : Int × Int × Int := opS s how (okB (pd s) m.natAbs e && okB (pd s) n.natAbs f) (flat (rnd (pd s) how (neg2 m n) (m.natAbs * n.natAbs) (e + f) false))
theorem mul_lt {a b : Nat} (ha : a < 1000000000000000000) (hb : b < 1000000000000000000) : a * b < 1000000000000000000000000000000000000 := by
  have h1 : a * b ≤ 999999999999999999 * 999999999999999999 := Nat.mul_le_mul (by omega) (by omega)
  have h2 : 999999999999999999 * 999999999999999999 < 1000000000000000000000000000000000000 := by decide
  exact Nat.lt_of_le_of_lt h1 h2
theorem rmul_is (s how m e n f : Int) (hm : I64 m) (hn : I64 n) : Ev (fun k => environref02_Mul.f k s how m e n f) (mulS s how m e n f) := by
  unfold environref02_Mul.f mulS
  refine ref_op s how m e n f hm hn _ ?_ ?_
  · intro hs h0 h3 o1 o2
    have hp := pd_of hs
    have b1 := okB_bd o1 (by omega); have b2 := okB_bd o2 (by omega)
    have hw : Aside0 (wrap64 (e + f) = e + f) := ⟨x64 (by omega) (by omega)⟩
    have hlt := mul_lt b1.1 b2.1
    have hd := dg_small (n := m.natAbs * n.natAbs) (by omega)
    simp only [if_true, hw.out]
    refine Ev.bind (of_is hm.1 hm.2) (Ev.bind (of_is hn.1 hn.2) (Ev.bind (times_is' (by omega) (by omega)) (Ev.bind (rounded_is hs how h0 h3 _ (m.natAbs * n.natAbs) (e + f) false (.inr rfl) (by omega) (by omega) (by omega)) ?_)))
    exact Ev.now _
  · intro k t ht; rw [if_neg ht]
theorem mul_in (k : Nat) (m n e f p how E : Int) (H L H2 L2 P Q : Int) (hm : reals_magnitude.f m = some (H, L)) (hn : reals_magnitude.f n = some (H2, L2)) (ht : reals_wide_times.f H L L2 = some (P, Q)) (hE : wrap64 (e + f) = E) :
    (if (((p, 0) : Int × Int)).2 = 0 then ((reals_magnitude.f m).bind fun bt429 => ((reals_magnitude.f n).bind fun bt431 => ((reals_wide_times.f bt429.1 bt429.2 bt431.2).bind fun bt433 => ((reals_exact_round.f k ((decide (m < 0)) != (decide (n < 0))) bt433.1 bt433.2 (wrap64 (e + f)) false (((p, 0) : Int × Int)).1 how).bind fun bt435 => (some (bt435.1, bt435.2.1, bt435.2.2)))))) else (some (0, 0, (((p, 0) : Int × Int)).2))) = (reals_exact_round.f k (neg2 m n) P Q E false p how).bind fun bt435 => (some (bt435.1, bt435.2.1, bt435.2.2)) := by
  rw [if_pos rfl, hm]; simp only [Option.bind_some]; rw [hn]; simp only [Option.bind_some]; rw [ht]; simp only [Option.bind_some]; rw [hE]; rfl
theorem two_ok (s m e n f : Int) : ([(⟨m, e⟩ : S29), (⟨n, f⟩ : S29)].all fun x => okB (pd s) x.f0.natAbs x.f1) = (okB (pd s) m.natAbs e && okB (pd s) n.natAbs f) := by simp
theorem two_bd {m e n f : Int} (hm : I64 m) (hn : I64 n) : ∀ x ∈ [(⟨m, e⟩ : S29), (⟨n, f⟩ : S29)], -9223372036854775808 ≤ x.f0 ∧ x.f0 ≤ 9223372036854775807 := by
  intro x hx
  simp only [List.mem_cons, List.not_mem_nil, or_false] at hx
  rcases hx with rfl | rfl
  · exact hm
  · exact hn
theorem pmul_is (s how m e n f : Int) (hm : I64 m) (hn : I64 n) : Ev (fun k => reals_Mul.f k s how m e n f) (mulS s how m e n f) := by
  unfold reals_Mul.f mulS
  refine prog_op s how _ (two_bd hm hn) (by simp) _ (two_ok s m e n f) _ ?_ ?_
  · intro hs h0 h3 ho
    rw [Bool.and_eq_true] at ho
    have hp := pd_of hs
    have b1 := okB_bd ho.1 (by omega); have b2 := okB_bd ho.2 (by omega)
    have hlt := mul_lt b1.1 b2.1
    have hs2 := hl_small (n := n.natAbs) (by omega)
    have ht := times_is (n := m.natAbs) (c := n.natAbs) (by omega) (by omega) (by omega)
    rw [← hs2.2] at ht
    have hr := round_is hs how h0 h3 (neg2 m n) (n := m.natAbs * n.natAbs) (by omega) (e + f) (by omega) (by omega) false
    refine Ev.congr (fun k => ?_) (Ev.bind hr (Ev.now (flat _)))
    exact mul_in k m n e f (pd s) how _ _ _ _ _ _ _ (mag_is hm.1 hm.2) (mag_is hn.1 hn.2) ht (x64 (by omega) (by omega))
  · intro k t ht; rw [if_neg ht]
def divS (s how m e n f : Int) : Int × Int × Int := opS s how (okB (pd s) m.natAbs e && okB (pd s) n.natAbs f) (if n = 0 then (0, 0, 11) else flat (rnd (pd s) how (neg2 m n) (m.natAbs * 10 ^ 40 / n.natAbs) (e - f - 40) (decide (m.natAbs * 10 ^ 40 % n.natAbs ≠ 0))))
theorem len_pos (r : Nat) : decide (((dl r).length : Int) > 0) = decide (r ≠ 0) := by
  rw [decide_eq_decide, len_dl]
  by_cases h : r = 0
  · subst h; rw [dg_zero]; simp
  · have := dg_pos h; omega
theorem rdiv_in (k : Nat) (s how m n e f E : Int) (A B C Q R : List Int) (more : Bool) (hm : environref02_Of.f k m = some A) (hsh : environref02_shift.f A 40 = some B) (hn : environref02_Of.f k n = some C) (hd : environref02_divide.f k B C = some (Q, R)) (hz : n ≠ 0) (hE : wrap64 (wrap64 (e - f) - 40) = E) (hR : decide ((R.length : Int) > 0) = more) :
    (if (0 : Int) = 0 then (if n = 0 then (some (0, 0, 11)) else ((environref02_Of.f k m).bind fun t536 => ((environref02_shift.f t536 40).bind fun t539 => ((environref02_Of.f k n).bind fun t542 => ((environref02_divide.f k t539 t542).bind fun bt545 => ((environref02_Rounded.f k s how ((decide (m < 0)) != (decide (n < 0))) bt545.1 (wrap64 ((wrap64 (e - f)) - 40)) (decide ((bt545.2.length : Int) > 0))).bind fun bt551 => (some (bt551.1, bt551.2.1, bt551.2.2)))))))) else (some (0, 0, 0))) = (environref02_Rounded.f k s how (neg2 m n) Q E more).bind fun bt551 => (some (bt551.1, bt551.2.1, bt551.2.2)) := by
  rw [if_pos rfl, if_neg hz, hm]; simp only [Option.bind_some]; rw [hsh]; simp only [Option.bind_some]; rw [hn]; simp only [Option.bind_some]; rw [hd]; simp only [Option.bind_some]; rw [hE, hR]; rfl
theorem rdiv_core {s : Int} (hs : er s = 0) (how : Int) (h0 : 0 ≤ how) (h3 : how ≤ 3) (neg : Bool) (A n : Nat) (hn : n ≠ 0) (hA : A = 0 ∨ n ≤ A) (hd : dg A ≤ 100) (E : Int) (h1 : -15000 ≤ E) (h2 : E ≤ 15000) :
    Ev (fun k => environref02_Rounded.f k s how neg (dl (A / n)) E (decide (A % n ≠ 0))) (flat (rnd (pd s) how neg (A / n) E (decide (A % n ≠ 0)))) := by
  have hdq : dg (A / n) ≤ 100 := Nat.le_trans (dg_mono' (Nat.div_le_self _ _)) hd
  have hnm : A / n ≠ 0 ∨ decide (A % n ≠ 0) = false := by
    rcases hA with h | h
    · right; rw [h, Nat.zero_mod]; rfl
    · left; exact Nat.ne_of_gt (Nat.div_pos h (Nat.pos_of_ne_zero hn))
  exact rounded_is hs how h0 h3 neg (A / n) E _ hnm (by omega) h1 h2
theorem rdiv_is (s how m e n f : Int) (hm : I64 m) (hn : I64 n) : Ev (fun k => environref02_Div.f k s how m e n f) (divS s how m e n f) := by
  unfold environref02_Div.f divS
  refine ref_op s how m e n f hm hn _ ?_ ?_
  · intro hs h0 h3 o1 o2
    have hp := pd_of hs
    have b1 := okB_bd o1 (by omega); have b2 := okB_bd o2 (by omega)
    by_cases hz : n = 0
    · rw [if_pos hz]
      refine Ev.congr (fun k => ?_) (Ev.now _)
      rw [if_pos rfl, if_pos hz]
    · rw [if_neg hz]
      have hnz : n.natAbs ≠ 0 := by omega
      have hsh : environref02_shift.f (dl m.natAbs) 40 = some (dl (m.natAbs * 10 ^ 40)) := shift_is (k := 40) (by omega) (by omega)
      have hA : m.natAbs * 10 ^ 40 = 0 ∨ n.natAbs ≤ m.natAbs * 10 ^ 40 := by
        by_cases h0 : m.natAbs = 0
        · left; rw [h0, Nat.zero_mul]
        · right
          have : 1 * 10 ^ 40 ≤ m.natAbs * 10 ^ 40 := Nat.mul_le_mul_right _ (by omega)
          omega
      have hdm : dg (m.natAbs * 10 ^ 40) ≤ 100 := by
        by_cases h0 : m.natAbs = 0
        · rw [h0, Nat.zero_mul, dg_zero]; omega
        · rw [dg_mul h0]; omega
      generalize m.natAbs * 10 ^ 40 = A at *
      have hw : wrap64 (wrap64 (e - f) - 40) = e - f - 40 := by rw [x64 (n := e - f) (by omega) (by omega)]; exact x64 (by omega) (by omega)
      obtain ⟨K1, hom⟩ := of_is hm.1 hm.2
      obtain ⟨K2, hon⟩ := of_is hn.1 hn.2
      obtain ⟨K3, hdv⟩ := divide_is (a := A) hnz (by omega) (by omega)
      obtain ⟨K4, hrr⟩ := Ev.bind (rdiv_core hs how h0 h3 (neg2 m n) A n.natAbs hnz hA hdm (e - f - 40) (by omega) (by omega)) (Ev.now (flat (rnd (pd s) how (neg2 m n) (A / n.natAbs) (e - f - 40) (decide (A % n.natAbs ≠ 0)))))
      refine ⟨K1 + K2 + K3 + K4, fun k hk => ?_⟩
      exact (rdiv_in k s how m n e f _ _ _ _ _ _ _ (hom k (by omega)) hsh (hon k (by omega)) (hdv k (by omega)) hz hw (len_pos _)).trans (hrr k (by omega))
  · intro k t ht; rw [if_neg ht]
/-- fewer zeros behind the dividend, and what is left is told -/
theorem div_sticky (A n k : Nat) (hn : n ≠ 0) : A * 10 ^ k / n = A / n * 10 ^ k + A % n * 10 ^ k / n ∧ A % n * 10 ^ k / n < 10 ^ k ∧ (decide (A * 10 ^ k % n ≠ 0) || decide (A % n * 10 ^ k / n ≠ 0)) = decide (A % n ≠ 0) := by
  have hpos := Nat.pos_of_ne_zero hn
  have hk := p10 k
  have e : A * 10 ^ k = n * (A / n * 10 ^ k) + A % n * 10 ^ k := by
    rw [← Nat.mul_assoc, ← Nat.add_mul, Nat.div_add_mod]
  have hr := Nat.mod_lt A hpos
  refine ⟨by rw [e, Nat.mul_add_div hpos], ?_, ?_⟩
  · rw [Nat.div_lt_iff_lt_mul hpos, Nat.mul_comm (10 ^ k)]; exact Nat.mul_lt_mul_of_pos_right hr hk
  · have hmod : A * 10 ^ k % n = A % n * 10 ^ k % n := by rw [e, Nat.mul_add_mod]
    rw [hmod]
    by_cases h0 : A % n = 0
    · rw [h0]; simp
    · rw [decide_eq_true h0]
      have hp : 0 < A % n * 10 ^ k := Nat.mul_pos (Nat.pos_of_ne_zero h0) hk
      by_cases h1 : A % n * 10 ^ k % n = 0
      · have h2 : A % n * 10 ^ k / n ≠ 0 := by
          intro h2
          have := Nat.div_add_mod (A % n * 10 ^ k) n
          rw [h1, h2] at this; omega
        rw [decide_eq_true h2, Bool.or_true]
      · rw [decide_eq_true h1, Bool.true_or]
theorem div_same (p : Nat) (hp : p ≤ 18) (how : Int) (neg : Bool) (c n : Nat) (hc : c < 1000000000000000000) (hn : n ≠ 0) (hn2 : n < 1000000000000000000) (e : Int) :
    rnd p how neg (c * 10 ^ 40 / n) (e - 40) (decide (c * 10 ^ 40 % n ≠ 0)) = rnd p how neg (c * 10 ^ (38 - dg c) / n) (e - (38 - dg c : Nat)) (decide (c * 10 ^ (38 - dg c) % n ≠ 0)) := by
  by_cases hz : c = 0
  · subst hz
    rw [Nat.zero_mul, Nat.zero_mul, Nat.zero_div, Nat.zero_mod]
    rw [show decide ((0 : Nat) ≠ 0) = false from rfl, rnd_zero, rnd_zero]
  · have hd := dg_pos hz
    have hd18 : dg c ≤ 18 := dg_le_iff.2 (by omega)
    have hA : 10 ^ 37 ≤ c * 10 ^ (38 - dg c) := by
      have h1 := dg_le hz
      have h2 : 10 ^ (dg c - 1) * 10 ^ (38 - dg c) = 10 ^ 37 := by rw [← Nat.pow_add]; congr 1; omega
      rw [← h2]; exact Nat.mul_le_mul_right _ h1
    have e40 : c * 10 ^ 40 = c * 10 ^ (38 - dg c) * 10 ^ (2 + dg c) := by rw [Nat.mul_assoc, ← Nat.pow_add]; congr 2; omega
    rw [e40]
    generalize c * 10 ^ (38 - dg c) = A at *
    obtain ⟨h1, h2, h3⟩ := div_sticky A n (2 + dg c) hn
    have hq : 10 ^ 19 ≤ A / n := by
      rw [Nat.le_div_iff_mul_le (Nat.pos_of_ne_zero hn)]
      have : 10 ^ 19 * n ≤ 10 ^ 19 * 10 ^ 18 := Nat.mul_le_mul_left _ (by omega)
      omega
    have hdq : 20 ≤ dg (A / n) := by
      refine Nat.lt_of_not_le fun hle => ?_
      have := dg_le_iff.1 hle; omega
    have hst := rnd_sticky p how neg (A / n) (e - (38 - dg c : Nat)) (2 + dg c) (A % n * 10 ^ (2 + dg c) / n) (decide (A * 10 ^ (2 + dg c) % n ≠ 0)) h2 (by unfold dropS; omega) (by intro h0; rw [h0, dg_zero] at hdq; omega)
    rw [h3, ← h1] at hst
    rw [← hst]
    congr 1; omega
theorem div_in (k : Nat) (m n e f p how t H L H2 L2 C D Q0 Q1 R N E : Int) (more : Bool) (hm : reals_magnitude.f m = some (H, L)) (hd : reals_wide_digits.f H L = some t) (hN : wrap64 (38 - t) = N) (hsc : reals_wide_scaled.f k H L N = some (C, D)) (hn : reals_magnitude.f n = some (H2, L2)) (ho : reals_wide_over.f k C D L2 = some (Q0, Q1, R)) (hz : n ≠ 0) (hE : wrap64 (wrap64 (e - N) - f) = E) (hR : (R != 0) = more) :
    (if (((p, 0) : Int × Int)).2 = 0 then (if n = 0 then (some (0, 0, 11)) else ((reals_magnitude.f m).bind fun bt200 => ((reals_wide_digits.f bt200.1 bt200.2).bind fun t203 => ((reals_wide_scaled.f k bt200.1 bt200.2 (wrap64 (38 - t203))).bind fun bt204 => ((reals_magnitude.f n).bind fun bt206 => ((reals_wide_over.f k bt204.1 bt204.2 bt206.2).bind fun bt208 => ((reals_exact_round.f k ((decide (m < 0)) != (decide (n < 0))) bt208.1 bt208.2.1 (wrap64 ((wrap64 (e - (wrap64 (38 - t203)))) - f)) (bt208.2.2 != 0) (((p, 0) : Int × Int)).1 how).bind fun bt212 => (some (bt212.1, bt212.2.1, bt212.2.2))))))))) else (some (0, 0, (((p, 0) : Int × Int)).2))) = (reals_exact_round.f k (neg2 m n) Q0 Q1 E more p how).bind fun bt212 => (some (bt212.1, bt212.2.1, bt212.2.2)) := by
  rw [if_pos rfl, if_neg hz, hm]; simp only [Option.bind_some]; rw [hd]; simp only [Option.bind_some]; rw [hN, hsc]; simp only [Option.bind_some]; rw [hn]; simp only [Option.bind_some]; rw [ho]; simp only [Option.bind_some]; rw [hE, hR]; rfl
theorem pdiv_is (s how m e n f : Int) (hm : I64 m) (hn : I64 n) : Ev (fun k => reals_Div.f k s how m e n f) (divS s how m e n f) := by
  unfold reals_Div.f divS
  refine prog_op s how _ (two_bd hm hn) (by simp) _ (two_ok s m e n f) _ ?_ ?_
  · intro hs h0 h3 ho
    rw [Bool.and_eq_true] at ho
    have hp := pd_of hs
    have b1 := okB_bd ho.1 (by omega); have b2 := okB_bd ho.2 (by omega)
    by_cases hz : n = 0
    · rw [if_pos hz]
      refine Ev.congr (fun k => ?_) (Ev.now _)
      rw [if_pos rfl, if_pos hz]
    · rw [if_neg hz]
      have hnz : n.natAbs ≠ 0 := by omega
      have hd18 : dg m.natAbs ≤ 18 := by omega
      have hlt : m.natAbs * 10 ^ (38 - dg m.natAbs) < 10 ^ 38 := by
        have h1 := dg_lt m.natAbs
        have h2 : 10 ^ dg m.natAbs * 10 ^ (38 - dg m.natAbs) = 10 ^ 38 := by rw [← Nat.pow_add]; congr 1; omega
        rw [← h2]; exact Nat.mul_lt_mul_of_pos_right h1 (p10 _)
      have hs2 := hl_small (n := n.natAbs) (by omega)
      have hN : wrap64 (38 - ((dg m.natAbs : Nat) : Int)) = ((38 - dg m.natAbs : Nat) : Int) := by rw [x64 (by omega) (by omega)]; omega
      obtain ⟨K1, hsc⟩ := scaled_ev (n := m.natAbs) (d := 38 - dg m.natAbs) (by omega) (by omega)
      obtain ⟨K2, hov⟩ := over_ev (n := m.natAbs * 10 ^ (38 - dg m.natAbs)) (c := n.natAbs) (by omega) (by omega) (by omega)
      have hq : m.natAbs * 10 ^ (38 - dg m.natAbs) / n.natAbs < 340282366920938463463374607431768211456 := Nat.lt_of_le_of_lt (Nat.div_le_self _ _) (by omega)
      have hr := round_is hs how h0 h3 (neg2 m n) hq (e - f - (38 - dg m.natAbs : Nat)) (by omega) (by omega) (decide (m.natAbs * 10 ^ (38 - dg m.natAbs) % n.natAbs ≠ 0))
      have hsame := div_same (pd s) (by omega) how (neg2 m n) m.natAbs n.natAbs b1.1 hnz b2.1 (e - f)
      rw [hsame]
      obtain ⟨K3, hr3⟩ := Ev.bind hr (Ev.now (flat (rnd (pd s) how (neg2 m n) (m.natAbs * 10 ^ (38 - dg m.natAbs) / n.natAbs) (e - f - (38 - dg m.natAbs : Nat)) (decide (m.natAbs * 10 ^ (38 - dg m.natAbs) % n.natAbs ≠ 0)))))
      refine ⟨K1 + K2 + K3, fun k hk => ?_⟩
      have ho2 := hov k (by omega)
      rw [← hs2.2] at ho2
      have hmore : (((m.natAbs * 10 ^ (38 - dg m.natAbs) % n.natAbs : Nat) : Int) != 0) = decide (m.natAbs * 10 ^ (38 - dg m.natAbs) % n.natAbs ≠ 0) := by
        rw [Bool.eq_iff_iff, bne_iff_ne, decide_eq_true_eq]; omega
      have hw : wrap64 (wrap64 (e - ((38 - dg m.natAbs : Nat) : Int)) - f) = e - f - ((38 - dg m.natAbs : Nat) : Int) := by
        rw [x64 (n := e - ((38 - dg m.natAbs : Nat) : Int)) (by omega) (by omega), x64 (by omega) (by omega)]; omega
      exact (div_in k m n e f (pd s) how _ _ _ _ _ _ _ _ _ _ _ _ _ (mag_is hm.1 hm.2) (pdig_is (two128 (by omega))) hN (hsc k (by omega)) (mag_is hn.1 hn.2) ho2 hz hw hmore).trans (hr3 k (by omega))
  · intro k t ht; rw [if_neg ht]
theorem sgn_bd (neg : Bool) {n : Nat} (h : n < 1000000000000000000) : I64 (sgn neg n) := by
  unfold sgn I64; cases neg <;> simp <;> omega
theorem flat_bd {p : Nat} (hp : p ≤ 18) (hp0 : p ≠ 0) (how : Int) (neg : Bool) (n : Nat) (e : Int) (more : Bool) : I64 (flat (rnd p how neg n e more)).1 := by
  rw [rnd_out]
  cases h : rndM p how neg n e more with
  | none => exact (⟨by decide, by decide⟩ : I64 0)
  | some x =>
    have hk := rndM_ok hp0 h
    have h18 : 10 ^ p ≤ 10 ^ 18 := Nat.pow_le_pow_right (by decide) hp
    have := dg_le_iff.1 hk.d
    exact sgn_bd neg (by omega)
theorem mulS_bd (s how m e n f : Int) : I64 (mulS s how m e n f).1 := by
  unfold mulS opS
  split
  · rename_i hc
    have hp := pd_of hc.1
    split
    · exact flat_bd (by omega) (by omega) _ _ _ _ _
    · exact ⟨by decide, by decide⟩
  · exact ⟨by decide, by decide⟩
/-- c times one more factor; then, if inv, one divided by it -/
def powL (s m e : Int) (inv : Bool) : Nat → Int → Int → Int × Int × Int
  | 0, om, oe => if inv = true then divS s 0 1 0 om oe else (om, oe, 0)
  | c + 1, om, oe => if (mulS s 0 om oe m e).2.2 = 0 then powL s m e inv c (mulS s 0 om oe m e).1 (mulS s 0 om oe m e).2.1 else (0, 0, (mulS s 0 om oe m e).2.2)
def powS (s m e n : Int) : Int × Int × Int := opS s 0 (okB (pd s) m.natAbs e) (if n < -1000 ∨ n > 1000 then (0, 0, 11) else powL s m e (decide (n < 0)) n.natAbs 1 0)
theorem one_bd : I64 1 := ⟨by decide, by decide⟩
theorem rpow_l0 (s n m e : Int) (hm : I64 m) : ∀ (c : Nat) (om oe : Int), c ≤ 1000 → I64 om → Ev (fun k => environref02_Pow.l0 k s n (c : Int) m e om oe) (powL s m e (decide (n < 0)) c om oe) := by
  intro c
  induction c with
  | zero =>
    intro om oe _ ho
    unfold powL
    refine Ev.step (f := fun k => if n < 0 then ((environref02_Div.f k s 0 1 0 om oe).bind fun bt562 => (some (bt562.1, bt562.2.1, bt562.2.2))) else (some (om, oe, 0))) (fun k => ?_) ?_
    · simp only [environref02_Pow.l0]; rw [if_neg (by omega)]
    by_cases hn : n < 0
    · simp only [if_pos hn, decide_eq_true hn, if_true]; exact Ev.bind (rdiv_is s 0 1 0 om oe one_bd ho) (Ev.now _)
    · simp only [if_neg hn, decide_eq_false hn, Bool.false_eq_true, if_false]; exact Ev.now _
  | succ c ih =>
    intro om oe hc ho
    unfold powL
    have hw : Aside0 (wrap64 (((c + 1 : Nat) : Int) - 1) = (c : Int)) := ⟨by rw [x64 (by omega) (by omega)]; omega⟩
    refine Ev.step (f := fun k => (environref02_Mul.f k s 0 om oe m e).bind fun bt558 => (if bt558.2.2 = 0 then (environref02_Pow.l0 k s n (c : Int) m e bt558.1 bt558.2.1) else (some (0, 0, bt558.2.2)))) (fun k => ?_) ?_
    · simp only [environref02_Pow.l0]; rw [if_pos (by omega), hw.out]
    refine Ev.bind (rmul_is s 0 om oe m e ho hm) ?_
    by_cases hz : (mulS s 0 om oe m e).2.2 = 0
    · simp only [if_pos hz]; exact ih _ _ (by omega) (mulS_bd _ _ _ _ _ _)
    · simp only [if_neg hz]; exact Ev.now _
theorem ppow_l0 (s n m e : Int) (hm : I64 m) (N : Nat) (hN : N ≤ 1000) : ∀ (c i : Nat) (om oe : Int), i + c = N → I64 om → Ev (fun k => reals_Pow.l0 k s n (N : Int) (i : Int) m e om oe) (powL s m e (decide (n < 0)) c om oe) := by
  intro c
  induction c with
  | zero =>
    intro i om oe hi ho
    unfold powL
    refine Ev.step (f := fun k => if n < 0 then ((reals_Div.f k s 0 1 0 om oe).bind fun bt449 => (some (bt449.1, bt449.2.1, bt449.2.2))) else (some (om, oe, 0))) (fun k => ?_) ?_
    · simp only [reals_Pow.l0]; rw [if_neg (by omega)]
    by_cases hn : n < 0
    · simp only [if_pos hn, decide_eq_true hn, if_true]; exact Ev.bind (pdiv_is s 0 1 0 om oe one_bd ho) (Ev.now _)
    · simp only [if_neg hn, decide_eq_false hn, Bool.false_eq_true, if_false]; exact Ev.now _
  | succ c ih =>
    intro i om oe hi ho
    unfold powL
    have hw : Aside0 (wrap64 ((i : Int) + 1) = ((i + 1 : Nat) : Int)) := ⟨by rw [x64 (by omega) (by omega)]; omega⟩
    refine Ev.step (f := fun k => (reals_Mul.f k s 0 om oe m e).bind fun bt446 => (if bt446.2.2 = 0 then (reals_Pow.l0 k s n (N : Int) ((i + 1 : Nat) : Int) m e bt446.1 bt446.2.1) else (some (0, 0, bt446.2.2)))) (fun k => ?_) ?_
    · simp only [reals_Pow.l0]; rw [if_pos (by omega), hw.out]
    refine Ev.bind (pmul_is s 0 om oe m e ho hm) ?_
    by_cases hz : (mulS s 0 om oe m e).2.2 = 0
    · simp only [if_pos hz]; exact ih (i + 1) _ _ (by omega) (mulS_bd _ _ _ _ _ _)
    · simp only [if_neg hz]; exact Ev.now _
theorem rpow_is (s m e n : Int) (hm : I64 m) (hn : I64 n) : Ev (fun k => environref02_Pow.f k s m e n) (powS s m e n) := by
  have hz : I64 0 := ⟨by decide, by decide⟩
  have hok : (okB (pd s) m.natAbs e && okB (pd s) (Int.natAbs 0) 0) = okB (pd s) m.natAbs e := by rw [show okB (pd s) (Int.natAbs 0) 0 = true from rfl, Bool.and_true]
  unfold environref02_Pow.f powS
  rw [← hok]
  refine ref_op s 0 m e 0 0 hm hz _ ?_ ?_
  · intro hs _ _ o1 _
    have bad : Ev (fun k => environref02_Pow.j0 k s n true m e) (0, 0, 11) := by
      refine Ev.step (f := fun _ => some (0, 0, 11)) (fun k => ?_) (Ev.now _)
      simp only [environref02_Pow.j0]; rw [if_pos trivial]
    by_cases h1 : n < -1000
    · rw [if_pos (.inl h1)]
      refine Ev.congr (fun k => ?_) bad
      rw [if_pos rfl, if_pos h1]
    · by_cases h2 : n > 1000
      · rw [if_pos (.inr h2)]
        refine Ev.congr (fun k => ?_) bad
        rw [if_pos rfl, if_neg h1, decide_eq_true h2]
      · rw [if_neg (by omega)]
        refine Ev.congr (f := fun k => environref02_Pow.j0 k s n false m e) (fun k => by rw [if_pos rfl, if_neg h1, decide_eq_false h2]) ?_
        refine Ev.step (f := fun k => environref02_Pow.j1 k s n (n.natAbs : Int) m e 1 0) (fun k => ?_) ?_
        · simp only [environref02_Pow.j0]; rw [if_neg (by simp)]
          by_cases h3 : n < 0
          · rw [if_pos h3, x64 (by omega) (by omega), show -n = (n.natAbs : Int) by omega]
          · have hp : n = (n.natAbs : Int) := by omega
            rw [if_neg h3]; rw [← hp]
        refine Ev.step (fun k => ?_) (rpow_l0 s n m e hm n.natAbs 1 0 (by omega) one_bd)
        simp only [environref02_Pow.j1]
  · intro k t ht; rw [if_neg ht]
theorem ppow_is (s m e n : Int) (hm : I64 m) (hn : I64 n) : Ev (fun k => reals_Pow.f k s m e n) (powS s m e n) := by
  unfold reals_Pow.f powS
  refine prog_op s 0 _ (by intro x hx; simp only [List.mem_cons, List.not_mem_nil, or_false] at hx; subst hx; exact hm) (by simp) _ (by simp) _ ?_ ?_
  · intro hs _ _ ho
    have bad : Ev (fun k => reals_Pow.j0 k s n true m e) (0, 0, 11) := by
      refine Ev.step (f := fun _ => some (0, 0, 11)) (fun k => ?_) (Ev.now _)
      simp only [reals_Pow.j0]; rw [if_pos trivial]
    by_cases h1 : n < -1000
    · rw [if_pos (.inl h1)]
      refine Ev.congr (fun k => ?_) bad
      rw [if_pos rfl, if_pos h1]
    · by_cases h2 : n > 1000
      · rw [if_pos (.inr h2)]
        refine Ev.congr (fun k => ?_) bad
        rw [if_pos rfl, if_neg h1, decide_eq_true h2]
      · rw [if_neg (by omega)]
        refine Ev.congr (f := fun k => reals_Pow.j0 k s n false m e) (fun k => by rw [if_pos rfl, if_neg h1, decide_eq_false h2]) ?_
        refine Ev.step (fun k => ?_) (ppow_l0 s n m e hm n.natAbs (by omega) n.natAbs 0 1 0 (by omega) one_bd)
        simp only [reals_Pow.j0]; rw [if_neg (by simp), x64 (n := -n) (by omega) (by omega), show mx n (-n) = (n.natAbs : Int) by unfold mx; split <;> omega]; rfl
  · intro k t ht; rw [if_neg ht]
/-- the call of function f with these values returns v, and nothing that was there has changed -/
def Ret (f : Nat) (args : Array Value) (v : Value) : Prop := ∀ w, Calls Try.prog f args w fun e w' => e = .returned v ∧ Below w.heap.size w w'
theorem ret_b {f : Nat} {args : Array Value} {v : Value} (h : ∀ w, Calls Try.prog f args w fun e w' => e = .returned v ∧ Below w.heap.size w w') : Ret f args v := h
theorem at_w {f : Nat} {args : Array Value} {v : Value} (h : Aside0 (Ret f args v)) (w : World) : Calls Try.prog f args w fun e w' => e = .returned v ∧ Below w.heap.size w w' := h.out w
def OneP (M E er : Int) (w : World) (en : Ending) (w' : World) : Prop := ∃ p q : Nat, en = .returned (.func (Fn.func 49) #[] #[.pointer (some ⟨p, 0, none⟩), .pointer (some ⟨q, 0, none⟩)]) ∧ w'.heap[p]? = some (.cells #[.int .i64 M, .int .i64 E] 29 (0, 0)) ∧ w'.heap[q]? = some (.cells #[.int .i64 er] 25 (0, 0)) ∧ Below w.heap.size w w'
set_option maxHeartbeats 1000000 in
theorem one_calls (M E er : Int) (w : World) : Calls Try.prog 16 #[.agg #[.int .i64 M, .int .i64 E], .int .i64 er] w (OneP M E er w) := by
  have hu := Try.underlying29
  have B1 := Aside0.mk (blk_alloc (blk_new w (.cells #[.int .i64 M, .int .i64 E] 29 (0, 0))) (.cells #[.int .i64 er] 25 (0, 0)))
  have B2 := Aside0.mk (blk_new (w.alloc (.cells #[.int .i64 M, .int .i64 E] 29 (0, 0))) (.cells #[.int .i64 er] 25 (0, 0)))
  have B3 := Aside0.mk (below_alloc (below_alloc (Below.refl w.heap.size w) (.cells #[.int .i64 M, .int .i64 E] 29 (0, 0))) (.cells #[.int .i64 er] 25 (0, 0)))
  go_enter Try.func16, Try.ntmps16
  go_wp2
  go_ret
  exact ⟨w.heap.size, w.heap.size + 1, rfl, B1.out, by have := B2.out; simpa using this, B3.out⟩
set_option maxHeartbeats 1000000 in
theorem one1_yes (p q : Nat) (M E er : Int) (w : World) (hp : w.heap[p]? = some (.cells #[.int .i64 M, .int .i64 E] 29 (0, 0))) (hq : w.heap[q]? = some (.cells #[.int .i64 er] 25 (0, 0))) : Calls Try.prog 49 #[.agg #[.int .i64 M, .int .i64 E], .int .i64 er, .pointer (some ⟨p, 0, none⟩), .pointer (some ⟨q, 0, none⟩)] w fun en w' => en = .returned (.bool true) ∧ Below w.heap.size w w' := by
  have hu := Try.underlying29
  have c0 : w.cell? ⟨p, 0, none⟩ = some (.int .i64 M) := (blk_cell hp 0).trans rfl
  have c1 : w.cell? ⟨p, 1, none⟩ = some (.int .i64 E) := (blk_cell hp 1).trans rfl
  have c2 : w.cell? ⟨q, 0, none⟩ = some (.int .i64 er) := (blk_cell hq 0).trans rfl
  have lp := blk_lt hp
  have lq := blk_lt hq
  have B := Aside0.mk (Below.refl w.heap.size w)
  clear hp hq
  go_enter Try.func49, Try.ntmps49
  go_wp2
  go_ret
  exact ⟨rfl, below_alloc B.out _⟩
set_option maxHeartbeats 4000000 in
set_option maxRecDepth 100000 in
theorem awake_walk (h17 : Ret 17 #[.int .i64 0, .int .i64 0, .int .i64 1000, .int .i64 (-3)] (.tuple #[.agg #[.int .i64 1, .int .i64 0], .int .i64 0]))
    (h27 : Ret 27 #[.int .i64 (-1), .int .i64 1, .agg #[.int .i64 1, .int .i64 0], .agg #[.int .i64 3, .int .i64 0]] (.tuple #[.agg #[.int .i64 3333334, .int .i64 (-7)], .int .i64 0]))
    (h21 : Ret 21 #[.int .i64 (-1), .int .i64 0, .agg #[.int .i64 9999999, .int .i64 0], .agg #[.int .i64 5, .int .i64 (-1)]] (.tuple #[.agg #[.int .i64 1, .int .i64 7], .int .i64 0]))
    (h29 : Ret 29 #[.int .i64 0, .int .i64 0, .agg #[.int .i64 2, .int .i64 0]] (.tuple #[.agg #[.int .i64 14142135623731, .int .i64 (-13)], .int .i64 0])) : Ret 11 #[] (.bool true) := by
  intro w
  have hu := Try.underlying29
  have H17 := Aside0.mk h17; have H27 := Aside0.mk h27; have H21 := Aside0.mk h21; have H29 := Aside0.mk h29
  clear h17 h27 h21 h29
  go_enter Try.func11, Try.ntmps11
  go_wp2_with fail
  refine (at_w H17 _).mono ?_
  rintro e1 w1 ⟨rfl, hb⟩
  have X1 := Aside0.mk (blk_new w1 (.cells #[.int .i64 1, .int .i64 0] 29 (0, 0)))
  have HB1 := Aside0.mk (below_alloc hb (.cells #[.int .i64 1, .int .i64 0] 29 (0, 0)))
  clear hb
  go_wp2_with fail
  refine (at_w H27 _).mono ?_
  rintro e1 w2 ⟨rfl, hb⟩
  have X2 := Aside0.mk (blk_alloc (blk_below X1.out hb) (.cells #[.int .i64 3333334, .int .i64 (-7)] 29 (0, 0)))
  have Y2 := Aside0.mk (blk_new w2 (.cells #[.int .i64 3333334, .int .i64 (-7)] 29 (0, 0)))
  have HB2 := Aside0.mk (below_alloc (below_step HB1.out hb) (.cells #[.int .i64 3333334, .int .i64 (-7)] 29 (0, 0)))
  clear hb X1 HB1
  go_wp2_with fail
  refine (at_w H21 _).mono ?_
  rintro e1 w3 ⟨rfl, hb⟩
  have X3 := Aside0.mk (blk_alloc (blk_below X2.out hb) (.cells #[.int .i64 1, .int .i64 7] 29 (0, 0)))
  have Y3 := Aside0.mk (blk_alloc (blk_below Y2.out hb) (.cells #[.int .i64 1, .int .i64 7] 29 (0, 0)))
  have Z3 := Aside0.mk (blk_new w3 (.cells #[.int .i64 1, .int .i64 7] 29 (0, 0)))
  have HB3 := Aside0.mk (below_alloc (below_step HB2.out hb) (.cells #[.int .i64 1, .int .i64 7] 29 (0, 0)))
  clear hb X2 Y2 HB2
  go_wp2_with fail
  refine (at_w H29 _).mono ?_
  rintro e1 w4 ⟨rfl, hb⟩
  have X4 := blk_alloc (blk_below X3.out hb) (.cells #[.int .i64 14142135623731, .int .i64 (-13)] 29 (0, 0))
  have Y4 := blk_alloc (blk_below Y3.out hb) (.cells #[.int .i64 14142135623731, .int .i64 (-13)] 29 (0, 0))
  have Z4 := blk_alloc (blk_below Z3.out hb) (.cells #[.int .i64 14142135623731, .int .i64 (-13)] 29 (0, 0))
  have U4 := blk_new w4 (.cells #[.int .i64 14142135623731, .int .i64 (-13)] 29 (0, 0))
  have HB4 := Aside0.mk (below_alloc (below_step HB3.out hb) (.cells #[.int .i64 14142135623731, .int .i64 (-13)] 29 (0, 0)))
  clear hb X3 Y3 Z3 HB3
  have x0 := (blk_cell X4 0).trans rfl; have x1 := (blk_cell X4 1).trans rfl
  have y0 := (blk_cell Y4 0).trans rfl; have y1 := (blk_cell Y4 1).trans rfl
  have z0 := (blk_cell Z4 0).trans rfl; have z1 := (blk_cell Z4 1).trans rfl
  have u0 := (blk_cell U4 0).trans rfl; have u1 := (blk_cell U4 1).trans rfl
  clear X4 Y4 Z4 U4
  go_wp2
  go_ret
  exact ⟨rfl, HB4.out⟩
theorem wf64 {x : Int} (h : (Lit.int .i64 x).wf = true) : I64 x := by
  unfold I64
  simp [Lit.wf, IntKind.min, IntKind.max, IntKind.signed, IntKind.bits] at h; omega
theorem awake_ret : Ret 11 #[] (.bool true) :=
  awake_walk (ret_b fun w => reals_Make.calls 200 0 0 1000 (-3) 1 0 0 w (by decide +kernel)) (ret_b fun w => reals_Div.calls 200 (-1) 1 1 0 3 0 3333334 (-7) 0 w (by decide +kernel))
    (ret_b fun w => reals_Add.calls 200 (-1) 0 9999999 0 5 (-1) 1 7 0 w (by decide +kernel)) (ret_b fun w => reals_Sqrt.calls 200 0 0 2 0 14142135623731 (-13) 0 w (by decide +kernel))
theorem box_s {w w' : World} {m e : Int} (h : w'.heap[w.heap.size]? = some (.cells #[.int .i64 m, .int .i64 e] 29 (0, 0))) :
    (w'.cell? ⟨w.heap.size, 0, none⟩ = some (.int .i64 m) ∧ w'.cell? ⟨w.heap.size, 1, none⟩ = some (.int .i64 e)) ∧ Aside0 (w'.heap[w.heap.size]? = some (.cells #[.int .i64 m, .int .i64 e] 29 (0, 0))) :=
  ⟨⟨(blk_cell h 0).trans rfl, (blk_cell h 1).trans rfl⟩, ⟨h⟩⟩
set_option maxHeartbeats 8000000 in
set_option maxRecDepth 100000 in
theorem powers_walk (s m e n : Int) (M E er2 : Int) (w : World) (h11 : Ret 11 #[] (.bool true))
    (h19 : Ret 19 #[.int .i64 s, .agg #[.int .i64 m, .int .i64 e], .int .i64 n] (.tuple #[.agg #[.int .i64 M, .int .i64 E], .int .i64 er2])) (h20 : Ret 20 #[.int .i64 s, .agg #[.int .i64 m, .int .i64 e], .int .i64 n] (.tuple #[.agg #[.int .i64 M, .int .i64 E], .int .i64 er2])) :
    Calls Try.prog 4 #[.int .i64 s, .agg #[.int .i64 m, .int .i64 e], .int .i64 n] w fun e w' => e = .returned (.bool true) ∧ Below w.heap.size w w' := by
  have hu := Try.underlying29
  have H11 := Aside0.mk h11; have H19 := Aside0.mk h19; have H20 := Aside0.mk h20
  clear h11 h19 h20
  have HX4 := Aside0.mk (blk_new w (.cells #[.int .i64 m, .int .i64 e] 29 (0, 0)))
  have HB4 := Aside0.mk (below_alloc (Below.refl w.heap.size w) (.cells #[.int .i64 m, .int .i64 e] 29 (0, 0)))
  go_enter Try.func4, Try.ntmps4
  go_upto_region 1 with fail
  go_region_held3 (fun w' => (w'.cell? ⟨w.heap.size, 0, none⟩ = some (.int .i64 m) ∧ w'.cell? ⟨w.heap.size, 1, none⟩ = some (.int .i64 e)) ∧ Aside0 (w'.heap[w.heap.size]? = some (.cells #[.int .i64 m, .int .i64 e] 29 (0, 0)))) ((first | (refine box_s ?_; exact HX9.out) | (refine box_s ?_; exact HX8.out) | (refine box_s ?_; exact HX7.out) | (refine box_s ?_; exact HX6.out) | (refine box_s ?_; exact HX5.out) | (refine box_s ?_; exact HX4.out))) (first | (go_at_call 11; (with_reducible refine (at_w H11 _).mono ?_); rintro e1 w5 ⟨rfl, hb⟩; have HX5 := Aside0.mk (blk_below (blk_drew HX4.out) hb); have HB5 := Aside0.mk (below_step (below_drew1 HB4.out) hb); clear hb) | (go_at_call 19; (with_reducible refine (at_w H19 _).mono ?_); rintro e1 w6 ⟨rfl, hb⟩; have HX6 := Aside0.mk (blk_below HX5.out hb); have HB6 := Aside0.mk (below_step HB5.out hb); clear hb) | (go_at_call 16; (with_reducible refine (one_calls M E er2 _).mono ?_); rintro e1 w7 ⟨gp, gq, rfl, hp, hq, hb⟩; have HP7 := Aside0.mk hp; have HQ7 := Aside0.mk hq; have HX7 := Aside0.mk (blk_below HX6.out hb); have HB7 := Aside0.mk (below_step HB6.out hb); clear hb hp hq) | (go_at_call 20; (with_reducible refine (at_w H20 _).mono ?_); rintro e1 w8 ⟨rfl, hb⟩; have HP8 := Aside0.mk (blk_below HP7.out hb); have HQ8 := Aside0.mk (blk_below HQ7.out hb); have HX8 := Aside0.mk (blk_below HX7.out hb); have HB8 := Aside0.mk (below_step HB7.out hb); clear hb) | (go_at_call 49; (with_reducible refine (one1_yes gp gq M E er2 _ HP8.out HQ8.out).mono ?_); rintro e1 w9 ⟨rfl, hb⟩; have HX9 := Aside0.mk (blk_below HX8.out hb); have HB9 := Aside0.mk (below_step HB8.out hb); clear hb))
  all_goals go_wp2
  all_goals go_ret
  all_goals exact ⟨rfl, HB9.out⟩
theorem realsPowers_walk (s m e n : Int) (w : World) (_w0 : (Lit.int .i64 s).wf = true) (w1 : (Lit.int .i64 m).wf = true) (_w2 : (Lit.int .i64 e).wf = true) (w3 : (Lit.int .i64 n).wf = true) :
    Calls Try.prog 4 #[.int .i64 s, .agg #[.int .i64 m, .int .i64 e], .int .i64 n] w fun e w' => e = .returned (.bool true) ∧ Below w.heap.size w w' := by
  have hm := wf64 w1; have hn := wf64 w3
  obtain ⟨k1, h1⟩ := (ppow_is s m e n hm hn).rounds
  obtain ⟨k2, h2⟩ := (rpow_is s m e n hm hn).rounds
  generalize powS s m e n = x at h1 h2
  obtain ⟨M, E, er2⟩ := x
  exact powers_walk s m e n M E er2 w awake_ret (ret_b fun w => reals_Pow.calls k1 s m e n M E er2 w h1) (ret_b fun w => environref02_Pow.calls k2 s m e n M E er2 w h2)
end Go.Proofs.Ytamkjpjibkabaaa.PR
