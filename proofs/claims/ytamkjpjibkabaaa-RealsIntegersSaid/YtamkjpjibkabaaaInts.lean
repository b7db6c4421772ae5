import Derived.Test.YtamkjpjibkabaaaPRHw
import Derived.Test.YtamkjpjibkabaaaPRgE
import Derived.Test.YtamkjpjibkabaaaPRgK
import Derived.Test.YtamkjpjibkabaaaPRgN
import Derived.Test.YtamkjpjibkabaaaPRgRd
import Derived.Test.YtamkjpjibkabaaaPRgRc
import Derived.Test.YtamkjpjibkabaaaPRgRb
import Derived.Test.YtamkjpjibkabaaaPRgRl
import Derived.Test.YtamkjpjibkabaaaPRgRm
namespace Go.Proofs.Ytamkjpjibkabaaa.PR
open Go.RowKit Go.Proofs.YtamkjpjibkabaaaW.PrintWords Go.Proofs.YtamkjpjibkabaaaW.PrintLast Go.Proofs.YtamkjpjibkabaaaW.PrintMore
set_option linter.unusedVariables false
set_option linter.unusedSimpArgs false
/-- the digits of a number, the last one first -/
def dl (n : Nat) : List Int := if h : n = 0 then [] else ((n % 10 : Nat) : Int) :: dl (n / 10)
decreasing_by omega
theorem dl_zero : dl 0 = [] := by unfold dl; simp
theorem dl_pos {n : Nat} (h : n ≠ 0) : dl n = ((n % 10 : Nat) : Int) :: dl (n / 10) := by rw [dl]; simp [h]
/-- the number that digits are -/
def vl : List Int → Nat | [] => 0 | d :: l => d.toNat + 10 * vl l
def Dg (l : List Int) : Prop := ∀ d ∈ l, 0 ≤ d ∧ d < 10
theorem Dg.nil : Dg [] := fun _ h => by cases h
theorem Dg.cons {d : Int} {l : List Int} (h0 : 0 ≤ d) (h1 : d < 10) (h : Dg l) : Dg (d :: l) := by
  intro x hx; rcases List.mem_cons.1 hx with rfl | hx
  · exact ⟨h0, h1⟩
  · exact h x hx
theorem Dg.tail {d : Int} {l : List Int} (h : Dg (d :: l)) : Dg l := fun x hx => h x (List.mem_cons_of_mem _ hx)
theorem Dg.head {d : Int} {l : List Int} (h : Dg (d :: l)) : 0 ≤ d ∧ d < 10 := h d (List.mem_cons_self ..)
theorem Dg.append {a b : List Int} (ha : Dg a) (hb : Dg b) : Dg (a ++ b) := by
  intro x hx; rcases List.mem_append.1 hx with h | h
  · exact ha x h
  · exact hb x h
theorem Dg.take {a : List Int} (ha : Dg a) (k : Nat) : Dg (a.take k) := fun x hx => ha x (List.mem_of_mem_take hx)
theorem Dg.drop {a : List Int} (ha : Dg a) (k : Nat) : Dg (a.drop k) := fun x hx => ha x (List.mem_of_mem_drop hx)
theorem vl_dl (n : Nat) : vl (dl n) = n := by
  induction n using Nat.strongRecOn with
  | ind n ih =>
    by_cases h : n = 0
    · subst h; rw [dl_zero]; rfl
    · rw [dl_pos h]; simp only [vl]; rw [ih (n / 10) (by omega)]; omega
theorem dg_dl (n : Nat) : Dg (dl n) := by
  induction n using Nat.strongRecOn with
  | ind n ih =>
    by_cases h : n = 0
    · subst h; rw [dl_zero]; exact Dg.nil
    · rw [dl_pos h]; exact Dg.cons (by omega) (by omega) (ih (n / 10) (by omega))
theorem len_dl (n : Nat) : (dl n).length = dg n := by
  induction n using Nat.strongRecOn with
  | ind n ih =>
    by_cases h : n = 0
    · subst h; rw [dl_zero, dg_zero]; rfl
    · rw [dl_pos h, dg_pos h, List.length_cons, ih (n / 10) (by omega)]
theorem vl_append (a b : List Int) : vl (a ++ b) = vl a + 10 ^ a.length * vl b := by
  induction a with
  | nil => simp [vl]
  | cons d a ih => simp only [List.cons_append, vl, ih, List.length_cons, Nat.pow_succ, Nat.mul_add]; rw [← Nat.mul_assoc, Nat.mul_comm 10 (10 ^ _)]; omega
/-- digits without a 0 at the end are those of their number -/
theorem dl_of {l : List Int} (h : Dg l) (hl : ∀ x, l.getLast? = some x → x ≠ 0) : l = dl (vl l) := by
  induction l with
  | nil => rw [vl, dl_zero]
  | cons d l ih =>
    have hd := h.head
    have hz : vl (d :: l) ≠ 0 := by
      intro h0
      simp only [vl] at h0
      have hd0 : d = 0 := by omega
      have hv0 : vl l = 0 := by omega
      cases l with
      | nil => exact hl d rfl hd0
      | cons e m =>
        have h' := ih h.tail (fun x hx => hl x (by rw [List.getLast?_cons_cons]; exact hx))
        rw [hv0, dl_zero] at h'; cases h'
    rw [dl_pos hz]
    have e1 : vl (d :: l) % 10 = d.toNat := by simp only [vl]; omega
    have e2 : vl (d :: l) / 10 = vl l := by simp only [vl]; omega
    rw [e1, e2]
    cases l with
    | nil => simp [vl, dl_zero]; omega
    | cons e m =>
      rw [← ih h.tail (fun x hx => hl x (by rw [List.getLast?_cons_cons]; exact hx))]
      congr 1; omega
theorem dl_drop (k n : Nat) : (dl n).drop k = dl (n / 10 ^ k) := by
  induction k generalizing n with
  | zero => simp
  | succ k ih =>
    by_cases h : n = 0
    · subst h; simp [dl_zero]
    · rw [dl_pos h, List.drop_succ_cons, ih, Nat.div_div_eq_div_mul, Nat.pow_succ, Nat.mul_comm 10]
theorem vl_take (k n : Nat) : vl ((dl n).take k) = n % 10 ^ k := by
  induction k generalizing n with
  | zero => simp [vl, Nat.mod_one]
  | succ k ih =>
    by_cases h : n = 0
    · subst h; simp [dl_zero, vl]
    · rw [dl_pos h, List.take_succ_cons, vl, ih, Nat.pow_succ, Nat.mul_comm (10 ^ k), Nat.mod_mul]
      omega
theorem dl_get {n i : Nat} (h : i < (dl n).length) : (dl n)[i] = ((n / 10 ^ i % 10 : Nat) : Int) := by
  have e := dl_drop i n
  rw [List.drop_eq_getElem_cons h] at e
  by_cases hz : n / 10 ^ i = 0
  · rw [hz, dl_zero] at e; cases e
  · rw [dl_pos hz] at e; exact (List.cons.inj e).1
theorem dl_len_le {n i : Nat} (h : (dl n).length ≤ i) : n / 10 ^ i = 0 := by
  have e := dl_drop i n
  rw [List.drop_eq_nil_of_le h] at e
  have := vl_dl (n / 10 ^ i); rw [← e] at this; exact this.symm
/-- the value of digits, one more at the end -/
theorem vl_snoc (l : List Int) (d : Int) : vl (l ++ [d]) = vl l + 10 ^ l.length * d.toNat := by rw [vl_append]; simp [vl]
theorem dg_one : dg 1 = 1 := by rw [dg_pos (by decide), show 1 / 10 = 0 from rfl, dg_zero]
theorem p10 (k : Nat) : 0 < 10 ^ k := Nat.pow_pos (by decide)
theorem dg_le_iff {n k : Nat} : dg n ≤ k ↔ n < 10 ^ k := by
  constructor
  · intro h; exact Nat.lt_of_lt_of_le (dg_lt n) (Nat.pow_le_pow_right (by decide) h)
  · intro h
    by_cases hz : n = 0
    · subst hz; rw [dg_zero]; omega
    · have := Nat.lt_of_le_of_lt (dg_le hz) h
      have := (Nat.pow_lt_pow_iff_right (show 1 < 10 by decide)).1 this
      omega
theorem dg_mul {n : Nat} (h : n ≠ 0) (k : Nat) : dg (n * 10 ^ k) = dg n + k := by
  have hd : dg n ≠ 0 := by have := dg_pos h; omega
  refine dg_is ?_ (.inr ?_)
  · rw [Nat.pow_add]; exact Nat.mul_lt_mul_of_pos_right (dg_lt n) (p10 k)
  · have : dg n + k - 1 = dg n - 1 + k := by omega
    rw [this, Nat.pow_add]; exact Nat.mul_le_mul_right _ (dg_le h)
theorem dg_add {n k s : Nat} (h : n ≠ 0) (hs : s < 10 ^ k) : dg (n * 10 ^ k + s) = dg n + k := by
  have hd : dg n ≠ 0 := by have := dg_pos h; omega
  refine dg_is ?_ (.inr ?_)
  · rw [Nat.pow_add]
    have h1 : (n + 1) * 10 ^ k ≤ 10 ^ dg n * 10 ^ k := Nat.mul_le_mul_right _ (dg_lt n)
    rw [Nat.add_mul, Nat.one_mul] at h1; omega
  · have : dg n + k - 1 = dg n - 1 + k := by omega
    rw [this, Nat.pow_add]; have := Nat.mul_le_mul_right (10 ^ k) (dg_le h); omega
theorem dg_div (n k : Nat) : dg (n / 10 ^ k) = dg n - k := by
  by_cases hz : n / 10 ^ k = 0
  · rw [hz, dg_zero]
    have : n < 10 ^ k := by
      rcases Nat.div_eq_zero_iff.1 hz with h | h
      · have := p10 k; omega
      · exact h
    have := dg_le_iff.2 this; omega
  · have e := Nat.div_add_mod n (10 ^ k)
    have hm := Nat.mod_lt n (p10 k)
    have := dg_add hz hm
    rw [Nat.mul_comm] at e
    rw [e] at this; omega
/-- how what is dropped compares to a half -/
def sdS (r m : Nat) (more : Bool) : Int := if r = m - r then (if more = true then 1 else 0) else if r < m - r then -1 else 1
/-- d digits dropped -/
def cutG (n d : Nat) (more : Bool) : Nat × Int × Bool := if d = 0 then (n, -1, more) else (n / 10 ^ d, sdS (n % 10 ^ d) (10 ^ d) more, more || decide (n % 10 ^ d ≠ 0))
def awayS (how : Int) (neg odd : Bool) (half : Int) (inexact : Bool) : Bool := if how = 0 then decide (half > 0) || (decide (half = 0) && odd) else if how = 1 then !neg && inexact else if how = 2 then neg && inexact else false
/-- the zeros at the end go over to the exponent -/
def strip (n : Nat) (e : Int) : Nat × Int := if h : n = 0 then (0, 0) else if n % 10 = 0 then strip (n / 10) (e + 1) else (n, e)
decreasing_by omega
def sgn (neg : Bool) (n : Nat) : Int := if neg = true then -(n : Int) else n
def real (neg : Bool) (x : Nat × Int) : (Int × Int) × Int := ((sgn neg x.1, x.2), 0)
def fin (p : Nat) (how : Int) (neg : Bool) (q : Nat) (t : Int) : (Int × Int) × Int :=
  if q = 0 then ((0, 0), 0) else if dg q + t > p + 400 then (if how = 0 ∨ how = 1 ∧ neg = false ∨ how = 2 ∧ neg = true then ((0, 0), 11) else real neg (10 ^ p - 1, 400)) else real neg (strip q t)
def dropS (p n : Nat) (e : Int) : Nat := max (dg n - p) (-400 - e).toNat
def up (how : Int) (neg : Bool) (c : Nat × Int × Bool) : Nat := c.1 + if awayS how neg (decide (c.1 % 2 = 1)) c.2.1 c.2.2 = true then 1 else 0
/-- a number rounded to p digits -/
def rnd (p : Nat) (how : Int) (neg : Bool) (n : Nat) (e : Int) (more : Bool) : (Int × Int) × Int := fin p how neg (up how neg (cutG n (dropS p n e) more)) (e + dropS p n e)
theorem strip_mul (n : Nat) (e : Int) (k : Nat) : strip (n * 10 ^ k) (e - k) = strip n e := by
  by_cases hz : n = 0
  · subst hz; rw [Nat.zero_mul]; unfold strip; simp
  · induction k generalizing e with
    | zero => simp
    | succ k ih =>
      rw [strip]
      have h0 : n * 10 ^ (k + 1) ≠ 0 := Nat.mul_ne_zero hz (by have := p10 (k + 1); omega)
      have h1 : n * 10 ^ (k + 1) % 10 = 0 := by rw [Nat.pow_succ, ← Nat.mul_assoc]; exact Nat.mul_mod_left _ _
      have h2 : n * 10 ^ (k + 1) / 10 = n * 10 ^ k := by rw [Nat.pow_succ, ← Nat.mul_assoc]; exact Nat.mul_div_cancel _ (by decide)
      rw [dif_neg h0, if_pos h1, h2, show e - ((k + 1 : Nat) : Int) + 1 = e - k by omega]
      exact ih e
theorem strip_ten (p : Nat) (t : Int) : strip (10 ^ p) t = (1, t + p) := by
  have h := strip_mul 1 (t + p) p
  rw [Nat.one_mul, show t + p - p = t by omega] at h
  rw [h]; unfold strip; simp
theorem cut_exact (n k : Nat) (d : Nat) (h : d ≤ k) : cutG (n * 10 ^ k) d false = (n * 10 ^ (k - d), -1, false) := by
  unfold cutG
  split
  · rename_i hd; subst hd; simp
  · have e : 10 ^ k = 10 ^ (k - d) * 10 ^ d := by rw [← Nat.pow_add]; congr 1; omega
    have hp := p10 d
    rw [e, ← Nat.mul_assoc, Nat.mul_mod_left, Nat.mul_div_cancel _ hp]
    unfold sdS; rw [if_neg (by omega), if_pos (by omega)]; simp
theorem up_exact (how : Int) (neg : Bool) (q : Nat) : up how neg (q, -1, false) = q := by
  unfold up awayS; simp
theorem up_le (how : Int) (neg : Bool) (n d : Nat) (more : Bool) : n / 10 ^ d ≤ up how neg (cutG n d more) ∧ up how neg (cutG n d more) ≤ n / 10 ^ d + 1 := by
  unfold up cutG
  split
  · rename_i h; subst h; rw [Nat.pow_zero, Nat.div_one]; simp only; split <;> omega
  · simp only; split <;> omega
theorem drop_lt (p n : Nat) (e : Int) : n / 10 ^ dropS p n e < 10 ^ p := by
  rw [← dg_le_iff, dg_div]; unfold dropS; omega
theorem up_lt (p : Nat) (how : Int) (neg : Bool) (n : Nat) (e : Int) (more : Bool) : up how neg (cutG n (dropS p n e) more) ≤ 10 ^ p := by
  have := up_le how neg n (dropS p n e) more
  have := drop_lt p n e
  omega
/-- the end of the rounding as the program does it -/
def finP (p : Nat) (how : Int) (neg : Bool) (q : Nat) (t : Int) : (Int × Int) × Int :=
  let q1 := if dg q > p then q / 10 else q
  let t1 := if dg q > p then t + 1 else t
  if q1 = 0 then ((0, 0), 0) else if dg q1 + max (t1 - 400) 0 > p then (if how = 0 ∨ how = 1 ∧ neg = false ∨ how = 2 ∧ neg = true then ((0, 0), 11) else real neg (10 ^ p - 1, 400)) else real neg (strip q1 t1)
theorem finP_is {p : Nat} (hp : p ≠ 0) (how : Int) (neg : Bool) {q : Nat} (hq : q ≤ 10 ^ p) (t : Int) : finP p how neg q t = fin p how neg q t := by
  unfold finP fin
  by_cases h : dg q > p
  · have h1 : ¬ q < 10 ^ p := fun h' => by have := dg_le_iff.2 h'; omega
    obtain rfl : q = 10 ^ p := by omega
    have e1 : dg (10 ^ p) = p + 1 := by have := dg_mul (n := 1) (by decide) p; rw [Nat.one_mul] at this; rw [this, dg_one]; omega
    have e2 : 10 ^ p / 10 = 10 ^ (p - 1) := by
      have : p = p - 1 + 1 := by omega
      rw [this, Nat.pow_succ, Nat.add_sub_cancel]; omega
    have e3 : dg (10 ^ (p - 1)) = p := by
      have := dg_mul (n := 1) (by decide) (p - 1); rw [Nat.one_mul] at this; rw [this, dg_one]; omega
    have z1 := p10 (p - 1)
    have z2 := p10 p
    simp only [if_pos h, e2]
    rw [if_neg (Nat.ne_of_gt z1), if_neg (Nat.ne_of_gt z2), e1, e3, strip_ten, strip_ten]
    have e4 : t + 1 + ((p - 1 : Nat) : Int) = t + p := by omega
    rw [e4]
    congr 1
    simp only [eq_iff_iff]; omega
  · simp only [if_neg h]
    by_cases hz : q = 0
    · rw [if_pos hz, if_pos hz]
    · rw [if_neg hz, if_neg hz]
      congr 1
      simp only [eq_iff_iff]; omega
/-- a valid number -/
structure Ok (p n : Nat) (e : Int) : Prop where
  z : n = 0 → e = 0
  t : n ≠ 0 → n % 10 ≠ 0
  d : dg n ≤ p
  l : -400 ≤ e
  h : e + dg n ≤ p + 400
theorem strip_ok {n : Nat} {e : Int} (h : n = 0 → e = 0) (h2 : n ≠ 0 → n % 10 ≠ 0) : strip n e = (n, e) := by
  unfold strip
  by_cases hz : n = 0
  · rw [dif_pos hz, hz, h hz]
  · rw [dif_neg hz, if_neg (h2 hz)]
theorem x64 {n : Int} (h : -9223372036854775808 ≤ n) (h' : n ≤ 9223372036854775807) : wrap64 n = n := by
  unfold wrap64; omega
theorem rd_dl {n i : Nat} (h : i < (dl n).length) : rd (dl n) (i : Int) = ((n / 10 ^ i % 10 : Nat) : Int) := by
  unfold rd; rw [Int.toNat_natCast, List.getD_eq_getElem?_getD, List.getElem?_eq_getElem h]; exact dl_get h
theorem rd_nat (l : List Int) (i : Nat) : rd l (i : Int) = l.getD i 0 := by unfold rd; rw [Int.toNat_natCast]
theorem trim_l0 : ∀ (n : Nat) (l : List Int), l.length = n → n ≤ 1000000 → Dg l → Ev (fun k => environref02_trim.l0 k l) (dl (vl l)) := by
  intro n
  induction n with
  | zero =>
    intro l hl _ _
    obtain rfl : l = [] := List.eq_nil_of_length_eq_zero hl
    refine Ev.step (f := fun _ => some []) (fun k => ?_) (by rw [vl, dl_zero]; exact Ev.now _)
    simp only [environref02_trim.l0]; rw [if_neg (by simp)]
  | succ n ih =>
    intro l hl hn hd
    have hw : Aside0 (wrap64 ((l.length : Int) - 1) = (n : Int)) := ⟨by rw [x64 (by omega) (by omega)]; omega⟩
    have hlast : l.getLast? = some (l[n]'(by omega)) := by rw [List.getLast?_eq_getElem?, List.getElem?_eq_getElem (by omega)]; congr 1; simp [hl]
    have hrd : rd l (n : Int) = l[n]'(by omega) := by rw [rd_nat, List.getD_eq_getElem?_getD, List.getElem?_eq_getElem (by omega)]; rfl
    by_cases h0 : l[n]'(by omega) = 0
    · have ht : vl l = vl (l.take n) := by
        have e : l = l.take n ++ [0] := by
          have := List.take_succ_eq_append_getElem (l := l) (i := n) (by omega)
          rw [List.take_of_length_le (by omega), h0] at this; exact this
        have h2 := congrArg vl e
        rw [vl_snoc] at h2; rw [h2]; simp
      refine Ev.step (f := fun k => environref02_trim.l0 k (l.take n)) (fun k => ?_) (by rw [ht]; exact ih (l.take n) (by rw [List.length_take]; omega) (by omega) (hd.take n))
      simp only [environref02_trim.l0]; rw [hw.out, hrd, if_pos (by omega), if_pos (by omega), if_pos (by omega), if_pos h0, if_pos (by omega), Int.toNat_natCast]
    · refine Ev.step (f := fun _ => some l) (fun k => ?_) ?_
      · simp only [environref02_trim.l0]; rw [hw.out, hrd, if_pos (by omega), if_pos (by omega), if_pos (by omega), if_neg h0]
      · rw [← dl_of hd (fun x hx => by rw [hlast] at hx; cases hx; exact h0)]; exact Ev.now _
theorem trim_is {l : List Int} (hl : l.length ≤ 1000000) (hd : Dg l) : Ev (fun k => environref02_trim.f k l) (dl (vl l)) := trim_l0 _ l rfl hl hd
theorem of_l0 : ∀ (n : Nat) (m : Int) (x : List Int), m.natAbs = n → n ≤ 9223372036854775808 → m ≤ 9223372036854775807 → x.length + dg n ≤ 1000000 → Ev (fun k => environref02_Of.l0 k m x) (x ++ dl n) := by
  intro n
  induction n using Nat.strongRecOn with
  | ind n ih =>
    intro m x hm hn hn2 hx
    by_cases h0 : m = 0
    · subst h0
      obtain rfl : n = 0 := by omega
      rw [dl_zero, List.append_nil]
      refine Ev.step (f := fun _ => some x) (fun k => ?_) (Ev.now _)
      simp only [environref02_Of.l0]; rw [if_pos trivial]
    · have hz : n ≠ 0 := by omega
      have hdp := dg_pos hz
      have e1 : Int.tdiv m 10 = if m < 0 then -((n / 10 : Nat) : Int) else ((n / 10 : Nat) : Int) := by
        split
        · have : m = -((n : Nat) : Int) := by omega
          rw [this, Int.neg_tdiv, Int.tdiv_eq_ediv_of_nonneg (by omega)]; omega
        · have : m = ((n : Nat) : Int) := by omega
          rw [this, Int.tdiv_eq_ediv_of_nonneg (by omega)]; omega
      have e2 : Int.tmod m 10 = if m < 0 then -((n % 10 : Nat) : Int) else ((n % 10 : Nat) : Int) := by
        split
        · have : m = -((n : Nat) : Int) := by omega
          rw [this, Int.neg_tmod, Int.tmod_eq_emod_of_nonneg (by omega)]; omega
        · have : m = ((n : Nat) : Int) := by omega
          rw [this, Int.tmod_eq_emod_of_nonneg (by omega)]; omega
      have hw : Aside0 (wrap64 (Int.tdiv m 10) = Int.tdiv m 10) := ⟨x64 (by rw [e1]; split <;> omega) (by rw [e1]; split <;> omega)⟩
      have hr : x ++ dl n = (x ++ [((n % 10 : Nat) : Int)]) ++ dl (n / 10) := by rw [dl_pos hz, List.append_assoc]; rfl
      rw [hr]
      refine Ev.step (f := fun k => environref02_Of.l0 k (Int.tdiv m 10) (x ++ [((n % 10 : Nat) : Int)])) (fun k => ?_) (ih (n / 10) (by omega) _ _ (by rw [e1]; split <;> omega) (by omega) (by rw [e1]; split <;> omega) (by rw [List.length_append, List.length_singleton]; omega))
      simp only [environref02_Of.l0]
      rw [if_neg h0, hw.out]
      by_cases hneg : Int.tmod m 10 < 0
      · rw [if_pos hneg, if_pos (by omega)]
        rw [e2] at hneg ⊢
        split at hneg
        · rename_i hm0; rw [if_pos hm0, Int.neg_neg, x64 (by omega) (by omega)]
        · omega
      · rw [if_neg hneg, if_pos (by omega)]
        rw [e2] at hneg ⊢
        split at hneg
        · rename_i hm0; rw [if_pos hm0]; have : n % 10 = 0 := by omega
          rw [this]; rfl
        · rename_i hm0; rw [if_neg hm0]
theorem dg_small {n : Nat} (h : n ≤ 340282366920938463463374607431768211456) : dg n ≤ 39 := by
  have : n < 10 ^ 39 := by omega
  by_cases hz : n = 0
  · subst hz; rw [dg_zero]; omega
  · have := Nat.lt_of_le_of_lt (dg_le hz) this
    have := (Nat.pow_lt_pow_iff_right (show 1 < 10 by decide)).1 this
    omega
theorem of_is {m : Int} (h : -9223372036854775808 ≤ m) (h' : m ≤ 9223372036854775807) : Ev (fun k => environref02_Of.f k m) (dl m.natAbs) := by
  have := dg_small (n := m.natAbs) (by omega)
  have h := of_l0 m.natAbs m [] rfl (by omega) h' (by simp; omega)
  rw [List.nil_append] at h; exact h
def cmp (a b : Nat) : Int := if a = b then 0 else if a < b then -1 else 1
theorem cmp_l0 (a b : Nat) (hl : (dl a).length = (dl b).length) (hs : (dl a).length ≤ 1000000) : ∀ j : Nat, j ≤ (dl a).length → a / 10 ^ j = b / 10 ^ j → Ev (fun k => environref02_compare.l0 k (dl a) (dl b) ((j : Int) - 1)) (cmp a b) := by
  intro j
  induction j with
  | zero =>
    intro _ h
    rw [Nat.pow_zero, Nat.div_one, Nat.div_one] at h
    subst h
    refine Ev.step (f := fun _ => some 0) (fun k => ?_) (by unfold cmp; rw [if_pos rfl]; exact Ev.now _)
    simp only [environref02_compare.l0]; rw [if_neg (by omega)]
  | succ j ih =>
    intro hj h
    have e : ((j + 1 : Nat) : Int) - 1 = (j : Int) := by omega
    rw [e]
    have ra := rd_dl (n := a) (i := j) (by omega)
    have rb := rd_dl (n := b) (i := j) (by omega)
    rw [Nat.pow_succ, ← Nat.div_div_eq_div_mul, ← Nat.div_div_eq_div_mul] at h
    generalize hA : a / 10 ^ j = A at *
    generalize hB : b / 10 ^ j = B at *
    by_cases h1 : A % 10 < B % 10
    · have hab : a < b := by
        have : A < B := by omega
        rw [← hA, ← hB] at this
        exact Nat.lt_of_not_le fun hle => by have := Nat.div_le_div_right (c := 10 ^ j) hle; omega
      refine Ev.step (f := fun _ => some (-1)) (fun k => ?_) (by unfold cmp; rw [if_neg (by omega), if_pos hab]; exact Ev.now _)
      simp only [environref02_compare.l0]; rw [if_pos (by omega), if_pos (by omega), if_pos (by omega), if_pos (by omega), ra, rb, if_pos (by omega)]
    · by_cases h2 : B % 10 < A % 10
      · have hab : b < a := by
          have : B < A := by omega
          rw [← hA, ← hB] at this
          exact Nat.lt_of_not_le fun hle => by have := Nat.div_le_div_right (c := 10 ^ j) hle; omega
        refine Ev.step (f := fun _ => some 1) (fun k => ?_) (by unfold cmp; rw [if_neg (by omega), if_neg (by omega)]; exact Ev.now _)
        simp only [environref02_compare.l0]; rw [if_pos (by omega), if_pos (by omega), if_pos (by omega), if_pos (by omega), ra, rb, if_neg (by omega), if_pos (by omega)]
      · refine Ev.step (f := fun k => environref02_compare.l0 k (dl a) (dl b) ((j : Int) - 1)) (fun k => ?_) (ih (by omega) (by omega))
        simp only [environref02_compare.l0]; rw [if_pos (by omega), if_pos (by omega), if_pos (by omega), if_pos (by omega), ra, rb, if_neg (by omega), if_neg (by omega), x64 (by omega) (by omega)]
theorem dl_lt_of_len {a b : Nat} (h : (dl a).length < (dl b).length) : a < b := by
  have h1 := dl_len_le (n := a) (Nat.le_refl _)
  have hb : b ≠ 0 := by rintro rfl; rw [dl_zero] at h; simp at h
  have h2 : b / 10 ^ (dl a).length ≠ 0 := by
    intro h0
    have := dl_drop (dl a).length b
    rw [h0, dl_zero] at this
    have := congrArg List.length this
    rw [List.length_drop, List.length_nil] at this; omega
  refine Nat.lt_of_not_le fun hle => ?_
  have := Nat.div_le_div_right (c := 10 ^ (dl a).length) hle
  rw [h1] at this; exact h2 (Nat.le_zero.1 this)
theorem cmp_is' {a b : Nat} (ha : (dl a).length ≤ 1000000) (hb : (dl b).length ≤ 1000000) : Ev (fun k => environref02_compare.f k (dl a) (dl b)) (cmp a b) := by
  by_cases hl : (dl a).length = (dl b).length
  · have h := cmp_l0 a b hl ha (dl a).length (Nat.le_refl _) (by rw [dl_len_le (Nat.le_refl _), dl_len_le (by omega)])
    refine Ev.congr (fun k => ?_) h
    unfold environref02_compare.f
    rw [if_pos (by omega), x64 (by omega) (by omega)]
  · by_cases h2 : (dl a).length < (dl b).length
    · have := dl_lt_of_len h2
      refine Ev.congr (f := fun _ => some (-1)) (fun k => ?_) (by unfold cmp; rw [if_neg (by omega), if_pos this]; exact Ev.now _)
      unfold environref02_compare.f; rw [if_neg (by omega), if_pos (by omega)]
    · have := dl_lt_of_len (a := b) (b := a) (by omega)
      refine Ev.congr (f := fun _ => some 1) (fun k => ?_) (by unfold cmp; rw [if_neg (by omega), if_neg (by omega)]; exact Ev.now _)
      unfold environref02_compare.f; rw [if_neg (by omega), if_neg (by omega)]
theorem dl_lt_iff {a i : Nat} : i < (dl a).length ↔ a / 10 ^ i ≠ 0 := by
  constructor
  · intro h h0
    have := dl_drop i a
    rw [h0, dl_zero] at this
    have := congrArg List.length this
    rw [List.length_drop, List.length_nil] at this; omega
  · intro h
    exact Nat.lt_of_not_le fun hle => h (dl_len_le hle)
theorem div_succ (a i : Nat) : a / 10 ^ (i + 1) = a / 10 ^ i / 10 := by rw [Nat.pow_succ, Nat.div_div_eq_div_mul]
theorem plus_l0 (a b : Nat) (ha : (dl a).length ≤ 1000000) (hb : (dl b).length ≤ 1000000) : ∀ (A : Nat) (i c : Nat) (out : List Int), A = c + a / 10 ^ i + b / 10 ^ i → c ≤ 9 → Dg out → out.length = i → i + dg A ≤ 900000 →
    Ev (fun k => environref02_plus.l0 k (dl a) (dl b) out (c : Int) (i : Int)) (dl (vl out + 10 ^ i * A)) := by
  intro A
  induction A using Nat.strongRecOn with
  | ind A ih =>
    intro i c out hA hc hd hi hs
    have ia := Aside0.mk (dl_lt_iff (a := a) (i := i))
    have ib := Aside0.mk (dl_lt_iff (a := b) (i := i))
    have sa := Aside0.mk (div_succ a i)
    have sb := Aside0.mk (div_succ b i)
    have rda := Aside0.mk (rd_dl (n := a) (i := i))
    have rdb := Aside0.mk (rd_dl (n := b) (i := i))
    generalize a / 10 ^ i = qa at *
    generalize b / 10 ^ i = qb at *
    have esum : Aside0 (∀ v : Nat, v + 10 ^ i * (A % 10) + 10 ^ (i + 1) * (A / 10) = v + 10 ^ i * A) := ⟨by
      intro v
      rw [Nat.pow_succ, Nat.mul_assoc, Nat.add_assoc, ← Nat.mul_add]; congr 2; omega⟩
    by_cases hz : A = 0
    · have z1 : ¬ i < (dl a).length := by rw [ia.out]; omega
      have z2 : ¬ i < (dl b).length := by rw [ib.out]; omega
      obtain rfl : c = 0 := by omega
      refine Ev.step (f := fun k => environref02_plus.j1 k (dl a) (dl b) out 0 i false) (fun k => ?_) ?_
      · simp only [environref02_plus.l0]; rw [if_neg (by omega), if_neg (by omega)]; rfl
      refine Ev.step (f := fun k => (environref02_trim.f k out).bind fun t => some t) (fun k => ?_) ?_
      · simp only [environref02_plus.j1]; rw [if_neg (by simp)]
      rw [hz, Nat.mul_zero, Nat.add_zero]
      exact Ev.bind (trim_is (by omega) hd) (Ev.now _)
    · have hp := dg_pos hz
      have go : Ev (fun k => environref02_plus.l0 k (dl a) (dl b) (out ++ [((A % 10 : Nat) : Int)]) (((c + qa % 10 + qb % 10) / 10 : Nat) : Int) ((i + 1 : Nat) : Int)) (dl (vl out + 10 ^ i * A)) := by
        have h := ih (A / 10) (by omega) (i + 1) ((c + qa % 10 + qb % 10) / 10) (out ++ [((A % 10 : Nat) : Int)]) (by rw [sa.out, sb.out]; omega) (by omega) (hd.append (Dg.cons (by omega) (by omega) Dg.nil)) (by rw [List.length_append, List.length_singleton]; omega) (by omega)
        rw [vl_snoc, hi, Int.toNat_natCast, esum.out] at h
        exact h
      have e1 : Aside0 (((i + 1 : Nat) : Int) = wrap64 ((i : Int) + 1)) := ⟨by rw [x64 (by omega) (by omega)]; omega⟩
      refine Ev.step (f := fun k => environref02_plus.j1 k (dl a) (dl b) out c i true) (fun k => ?_) ?_
      · simp only [environref02_plus.l0]
        by_cases z1 : i < (dl a).length
        · rw [if_pos (by omega)]
        · rw [if_neg (by omega)]
          by_cases z2 : i < (dl b).length
          · rw [if_pos (by omega)]
          · rw [if_neg (by omega)]
            have h1 : qa = 0 := Decidable.byContradiction fun h => z1 (ia.out.2 h)
            have h2 : qb = 0 := Decidable.byContradiction fun h => z2 (ib.out.2 h)
            have : 0 < c := by omega
            rw [decide_eq_true (by omega)]
      refine Ev.step (fun k => ?_) go
      simp only [environref02_plus.j1]
      rw [if_pos trivial, e1.out]
      have em : ∀ d : Nat, d ≤ 27 → (wrap64 (Int.tdiv (d : Int) 10) = ((d / 10 : Nat) : Int) ∧ Int.tmod (d : Int) 10 = ((d % 10 : Nat) : Int)) := by
        intro d hd
        rw [Int.tdiv_eq_ediv_of_nonneg (by omega), Int.tmod_eq_emod_of_nonneg (by omega), x64 (by omega) (by omega)]
        exact ⟨rfl, rfl⟩
      have fin : ∀ d : Nat, d = c + qa % 10 + qb % 10 → environref02_plus.l0 k (dl a) (dl b) (out ++ [Int.tmod (d : Int) 10]) (wrap64 (Int.tdiv (d : Int) 10)) (wrap64 ((i : Int) + 1)) = environref02_plus.l0 k (dl a) (dl b) (out ++ [((A % 10 : Nat) : Int)]) (((c + qa % 10 + qb % 10) / 10 : Nat) : Int) (wrap64 ((i : Int) + 1)) := by
        intro d hd
        have := em d (by omega)
        rw [this.1, this.2, hd]
        congr 4
        omega
      by_cases z1 : i < (dl a).length
      · have ra := rda.out z1
        rw [if_pos (by omega), if_pos (by omega), ra]
        by_cases z2 : i < (dl b).length
        · rw [if_pos (by omega), if_pos (by omega), rdb.out z2]
          rw [x64 (n := (c : Int) + ((qa % 10 : Nat) : Int)) (by omega) (by omega), x64 (n := (c : Int) + ((qa % 10 : Nat) : Int) + ((qb % 10 : Nat) : Int)) (by omega) (by omega)]
          exact fin (c + qa % 10 + qb % 10) rfl
        · rw [if_neg (by omega), if_pos (by omega)]
          rw [x64 (n := (c : Int) + ((qa % 10 : Nat) : Int)) (by omega) (by omega)]
          have hb0 : qb = 0 := Decidable.byContradiction fun h => z2 (ib.out.2 h)
          exact fin (c + qa % 10) (by omega)
      · have ha0 : qa = 0 := Decidable.byContradiction fun h => z1 (ia.out.2 h)
        rw [if_neg (by omega)]
        by_cases z2 : i < (dl b).length
        · rw [if_pos (by omega), if_pos (by omega), if_pos (by omega), rdb.out z2]
          rw [x64 (n := (c : Int) + ((qb % 10 : Nat) : Int)) (by omega) (by omega)]
          exact fin (c + qb % 10) (by omega)
        · have hb0 : qb = 0 := Decidable.byContradiction fun h => z2 (ib.out.2 h)
          rw [if_neg (by omega), if_pos (by omega)]
          exact fin c (by omega)
theorem dl_len_add (a b : Nat) : dg (a + b) ≤ max (dg a) (dg b) + 1 := by
  by_cases hz : a + b = 0
  · rw [hz, dg_zero]; omega
  · have h1 := dg_lt a; have h2 := dg_lt b
    have h3 : 10 ^ dg a ≤ 10 ^ max (dg a) (dg b) := Nat.pow_le_pow_right (by decide) (Nat.le_max_left _ _)
    have h4 : 10 ^ dg b ≤ 10 ^ max (dg a) (dg b) := Nat.pow_le_pow_right (by decide) (Nat.le_max_right _ _)
    have h5 := dg_le hz
    have h6 : 10 ^ (dg (a + b) - 1) < 10 ^ (max (dg a) (dg b) + 1) := by rw [Nat.pow_succ]; omega
    have := (Nat.pow_lt_pow_iff_right (show 1 < 10 by decide)).1 h6
    omega
theorem plus_is' {a b : Nat} (ha : dg a ≤ 100000) (hb : dg b ≤ 100000) : Ev (fun k => environref02_plus.f k (dl a) (dl b)) (dl (a + b)) := by
  have h := plus_l0 a b (by rw [len_dl]; omega) (by rw [len_dl]; omega) (a + b) 0 0 [] (by simp) (by omega) Dg.nil rfl (by have := dl_len_add a b; omega)
  simp only [vl, Nat.pow_zero, Nat.one_mul, Nat.zero_add] at h
  exact h
theorem dl_shift {a : Nat} (h : a ≠ 0) (k : Nat) : List.replicate k 0 ++ dl a = dl (a * 10 ^ k) := by
  induction k with
  | zero => simp
  | succ k ih =>
    have h0 : a * 10 ^ (k + 1) ≠ 0 := Nat.mul_ne_zero h (Nat.ne_of_gt (Nat.pow_pos (by decide)))
    rw [List.replicate_succ, List.cons_append, ih, dl_pos h0, Nat.pow_succ, ← Nat.mul_assoc, Nat.mul_mod_left, Nat.mul_div_cancel _ (by decide)]
    rfl
theorem shift_is {a k : Nat} (ha : dg a ≤ 100000) (hk : k ≤ 100000) : environref02_shift.f (dl a) (k : Int) = some (dl (a * 10 ^ k)) := by
  unfold environref02_shift.f
  by_cases h : a = 0
  · subst h; rw [dl_zero, if_pos (by simp), Nat.zero_mul, dl_zero]
  · have hp := dg_pos h
    rw [if_neg (by rw [len_dl]; omega), if_pos (by omega), Int.toNat_natCast, if_pos (by omega)]
    simp only [Option.bind_some]
    rw [if_pos (by rw [List.length_replicate, len_dl]; omega), dl_shift h]
theorem small_l0 (n : Nat) (hn : n < 1000000000000000000) : ∀ j : Nat, j ≤ (dl n).length → Ev (fun k => environref02_small.l0 k (dl n) ((n / 10 ^ j : Nat) : Int) ((j : Int) - 1)) (n : Int) := by
  intro j
  have hl : (dl n).length ≤ 39 := by rw [len_dl]; exact dg_small (by omega)
  induction j with
  | zero =>
    intro _
    refine Ev.step (f := fun _ => some (n : Int)) (fun k => ?_) (Ev.now _)
    simp only [environref02_small.l0]; rw [if_neg (by omega), Nat.pow_zero, Nat.div_one]
  | succ j ih =>
    intro hj
    have e : ((j + 1 : Nat) : Int) - 1 = (j : Int) := by omega
    have rb := rd_dl (n := n) (i := j) (by omega)
    have hq : n / 10 ^ j ≤ n := Nat.div_le_self _ _
    have sd := div_succ n j
    have ih := ih (by omega)
    rw [e, sd]
    clear sd e
    generalize n / 10 ^ j = q at *
    refine Ev.step (fun k => ?_) ih
    simp only [environref02_small.l0]; rw [if_pos (by omega), if_pos (by omega), if_pos (by omega), rb, x64 (n := 10 * ((q / 10 : Nat) : Int)) (by omega) (by omega), x64 (n := 10 * ((q / 10 : Nat) : Int) + ((q % 10 : Nat) : Int)) (by omega) (by omega), x64 (n := (j : Int) - 1) (by omega) (by omega)]
    congr 1; omega
theorem small_is {n : Nat} (hn : n < 1000000000000000000) : Ev (fun k => environref02_small.f k (dl n)) (n : Int) := by
  have hl : (dl n).length ≤ 39 := by rw [len_dl]; exact dg_small (by omega)
  have h := small_l0 n hn (dl n).length (Nat.le_refl _)
  rw [dl_len_le (Nat.le_refl _)] at h
  refine Ev.congr (fun k => ?_) h
  unfold environref02_small.f; rw [x64 (by omega) (by omega)]; rfl
theorem form_l0 (neg : Bool) : ∀ (n : Nat) (e : Int), n ≤ 1000000000000000000 → -100000 ≤ e → e + dg n ≤ 100000 → Ev (fun k => environref02_form.l0 k neg (dl n) e) (sgn neg (strip n e).1, (strip n e).2) := by
  intro n
  induction n using Nat.strongRecOn with
  | ind n ih =>
    intro e hn he he2
    by_cases hz : n = 0
    · subst hz
      rw [dl_zero]
      refine Ev.step (f := fun k => environref02_form.j1 k neg [] e) (fun k => ?_) ?_
      · simp only [environref02_form.l0]; rw [if_neg (by simp)]
      refine Ev.step (f := fun k => some (0, 0)) (fun k => ?_) ?_
      · simp only [environref02_form.j1]; rw [if_pos (by simp)]
      have h : strip 0 e = (0, 0) := by unfold strip; simp
      rw [h]
      have : sgn neg 0 = 0 := by unfold sgn; cases neg <;> rfl
      rw [this]; exact Ev.now _
    · have hp := dg_pos hz
      have hlen : 0 < (dl n).length := by rw [len_dl]; omega
      have hr := rd_dl hlen
      rw [Nat.pow_zero, Nat.div_one] at hr
      by_cases h0 : n % 10 = 0
      · have hs : strip n e = strip (n / 10) (e + 1) := by rw [strip, dif_neg hz, if_pos h0]
        rw [hs]
        refine Ev.step (fun k => ?_) (ih (n / 10) (by omega) (e + 1) (by omega) (by omega) (by omega))
        simp only [environref02_form.l0]
        rw [if_pos (by omega), if_pos (by omega), show (0 : Int) = ((0 : Nat) : Int) from rfl, hr, if_pos (by omega), if_pos (by omega), x64 (by omega) (by omega)]
        rw [dl_drop, Nat.pow_one]
      · have hs : strip n e = (n, e) := by rw [strip, dif_neg hz, if_neg h0]
        rw [hs]
        refine Ev.step (f := fun k => environref02_form.j1 k neg (dl n) e) (fun k => ?_) ?_
        · simp only [environref02_form.l0]
          rw [if_pos (by omega), if_pos (by omega), show (0 : Int) = ((0 : Nat) : Int) from rfl, hr, if_neg (by omega)]
        refine Ev.step (f := fun k => (environref02_small.f k (dl n)).bind fun t => if neg = true then some (wrap64 (-t), e) else some (t, e)) (fun k => ?_) ?_
        · simp only [environref02_form.j1]; rw [if_neg (by omega)]
        refine Ev.bind (small_is (by omega)) ?_
        unfold sgn
        cases neg
        · simp only [Bool.false_eq_true, if_false]; exact Ev.now _
        · simp only [if_true]; rw [x64 (by omega) (by omega)]; exact Ev.now _
theorem form_is (neg : Bool) {n : Nat} {e : Int} (hn : n ≤ 1000000000000000000) (he : -100000 ≤ e) (he2 : e ≤ 90000) : Ev (fun k => environref02_form.f k neg (dl n) e) (sgn neg (strip n e).1, (strip n e).2) := by
  have := dg_small (n := n) (by omega)
  exact form_l0 neg n e hn he (by omega)
theorem five_dl : ([5] : List Int) = dl 5 := by rw [dl_pos (by decide)]; rw [dl_zero]; rfl
theorem cmp_half (r d : Nat) (hd : d ≠ 0) (more : Bool) (hr : r < 10 ^ d) : (if wrap64 (cmp r (5 * 10 ^ (d - 1)) + 1) = 1 then (if more = true then (2 : Int) else wrap64 (cmp r (5 * 10 ^ (d - 1)) + 1)) else wrap64 (cmp r (5 * 10 ^ (d - 1)) + 1)) = sdS r (10 ^ d) more + 1 := by
  have e : 10 ^ d = 10 * 10 ^ (d - 1) := by rw [Nat.mul_comm, ← Nat.pow_succ]; congr 1; omega
  rw [e] at hr ⊢
  generalize 10 ^ (d - 1) = K at *
  have w0 : wrap64 (-1 + 1) = 0 := by unfold wrap64; omega
  have w1 : wrap64 (0 + 1) = 1 := by unfold wrap64; omega
  have w2 : wrap64 (1 + 1) = 2 := by unfold wrap64; omega
  rcases Nat.lt_trichotomy r (5 * K) with h | h | h
  · have hc : cmp r (5 * K) = -1 := by unfold cmp; rw [if_neg (by omega), if_pos h]
    have hs : sdS r (10 * K) more = -1 := by unfold sdS; rw [if_neg (by omega), if_pos (by omega)]
    rw [hc, hs, w0, if_neg (by decide)]; rfl
  · have hc : cmp r (5 * K) = 0 := by unfold cmp; rw [if_pos h]
    have hs : sdS r (10 * K) more = if more = true then 1 else 0 := by unfold sdS; rw [if_pos (by omega)]
    rw [hc, hs, w1, if_pos rfl]; cases more <;> rfl
  · have hc : cmp r (5 * K) = 1 := by unfold cmp; rw [if_neg (by omega), if_neg (by omega)]
    have hs : sdS r (10 * K) more = 1 := by unfold sdS; rw [if_neg (by omega), if_neg (by omega)]
    rw [hc, hs, w2, if_neg (by decide)]; rfl
theorem cut_is (neg : Bool) (n : Nat) (e : Int) (more : Bool) (d : Nat) (hd : d ≠ 0) (hnz : n ≠ 0 ∨ more = true) (hn : dg n ≤ 10000) (hd2 : d ≤ 20000) :
    Ev (fun k => environref02_cut.f k neg (dl n) e more (d : Int)) (dl (cutG n d more).1, (cutG n d more).2.1 + 1, (cutG n d more).2.2) := by
  have hlen := len_dl n
  unfold cutG
  rw [if_neg hd]
  by_cases hl : dg n < d
  · have hlt : n < 10 ^ (d - 1) := dg_le_iff.1 (by omega)
    have e10 : 10 ^ d = 10 * 10 ^ (d - 1) := by rw [Nat.mul_comm, ← Nat.pow_succ]; congr 1; omega
    refine Ev.congr (f := fun _ => some ([], 0, true)) (fun k => ?_) ?_
    · unfold environref02_cut.f; rw [if_pos (by omega)]
    have h1 : n % 10 ^ d = n := Nat.mod_eq_of_lt (by omega)
    have h2 : n / 10 ^ d = 0 := Nat.div_eq_of_lt (by omega)
    have h3 : sdS n (10 ^ d) more = -1 := by
      unfold sdS; rw [e10] at *; rw [if_neg (by omega), if_pos (by omega)]
    have h4 : (more || decide (n ≠ 0)) = true := by rcases hnz with h | h <;> simp [h]
    rw [h1, h2, h3, h4, dl_zero]; exact Ev.now _
  · have hlen5 : dg 5 ≤ 100000 := by rw [dg_pos (by decide), dg_zero]; decide
    refine Ev.congr (f := fun k => (environref02_trim.f k ([] ++ (dl n).drop d)).bind fun t311 => (environref02_trim.f k ([] ++ (dl n).take d)).bind fun t321 => (environref02_compare.f k t321 (dl (5 * 10 ^ (d - 1)))).bind fun t330 => some (t311, (if wrap64 (t330 + 1) = 1 then (if more = true then 2 else wrap64 (t330 + 1)) else wrap64 (t330 + 1)), if (t321.length : Int) > 0 then true else more)) (fun k => ?_) ?_
    · have hsh : environref02_shift.f [5] (wrap64 ((d : Int) - 1)) = some (dl (5 * 10 ^ (d - 1))) := by
        rw [x64 (by omega) (by omega), show (d : Int) - 1 = ((d - 1 : Nat) : Int) by omega, five_dl]; exact shift_is hlen5 (by omega)
      unfold environref02_cut.f
      rw [if_neg (by omega)]
      simp only [Option.bind_some]
      rw [if_pos (by omega), if_pos (by omega), Int.toNat_natCast, if_pos (by rw [List.length_nil, List.length_drop]; omega)]
      have hT : ([] : List Int).length + ((dl n).take d).length < 17592186044416 := by rw [List.length_nil, List.length_take]; omega
      simp only [hT, if_true, hsh, Option.bind_some]
      congr 1; funext t311; congr 1; funext t321; congr 1; funext t330
      by_cases c1 : wrap64 (t330 + 1) = 1
      · rw [if_pos c1, if_pos c1]
        cases more
        · simp only [Bool.false_eq_true, if_false]; split <;> rfl
        · simp only [if_true]; split <;> rfl
      · rw [if_neg c1, if_neg c1]; split <;> rfl
    rw [List.nil_append, List.nil_append]
    have t1 := trim_is (l := (dl n).drop d) (by rw [List.length_drop]; omega) ((dg_dl n).drop d)
    have t2 := trim_is (l := (dl n).take d) (by rw [List.length_take]; omega) ((dg_dl n).take d)
    rw [dl_drop, vl_dl] at t1
    rw [vl_take] at t2
    rw [dl_drop]
    refine Ev.bind t1 (Ev.bind t2 ?_)
    have hr := Nat.mod_lt n (p10 d)
    have hdr : dg (n % 10 ^ d) ≤ 20000 := Nat.le_trans (dg_le_iff.2 hr) hd2
    have hd5 : dg (5 * 10 ^ (d - 1)) ≤ 20000 := by rw [dg_mul (by decide), dg_pos (n := 5) (by decide), dg_zero]; omega
    refine Ev.bind (cmp_is' (by rw [len_dl]; omega) (by rw [len_dl]; omega)) ?_
    rw [cmp_half _ _ hd _ hr]
    have : (if ((dl (n % 10 ^ d)).length : Int) > 0 then true else more) = (more || decide (n % 10 ^ d ≠ 0)) := by
      by_cases h0 : n % 10 ^ d = 0
      · rw [h0, dl_zero]; simp
      · have hp := dg_pos h0
        rw [if_pos (by rw [len_dl]; omega)]; simp [h0]
    rw [this]; exact Ev.now _
theorem away_is (how : Int) (neg : Bool) (q : Nat) (half : Int) (left : Bool) (hh : half = -1 ∨ half = 0 ∨ half = 1) : environref02_away.f how neg (dl q) (half + 1) left = some (awayS how neg (decide (q % 2 = 1)) half left) := by
  unfold environref02_away.f awayS
  by_cases h0 : how = 0
  · rw [if_pos h0, if_pos h0]
    by_cases hz : q = 0
    · subst hz; rw [dl_zero, if_neg (by simp)]
      rcases hh with rfl | rfl | rfl <;> simp
    · have hp := dg_pos hz
      have hlen : 0 < (dl q).length := by rw [len_dl]; omega
      have hr := rd_dl hlen
      rw [Nat.pow_zero, Nat.div_one] at hr
      rw [if_pos (by omega), if_pos (by omega), show (0 : Int) = ((0 : Nat) : Int) from rfl, hr]
      have hm : (Int.tmod ((q % 10 : Nat) : Int) 2 == 1) = decide (q % 2 = 1) := by
        rw [Int.tmod_eq_emod_of_nonneg (by omega), Bool.eq_iff_iff, beq_iff_eq, decide_eq_true_eq]; omega
      rw [hm]
      rcases hh with rfl | rfl | rfl <;> simp
  · rw [if_neg h0, if_neg h0]
    by_cases h1 : how = 1
    · rw [if_pos h1, if_pos h1]; cases left <;> simp
    · rw [if_neg h1, if_neg h1]
      by_cases h2 : how = 2
      · rw [if_pos h2, if_pos h2]; cases left <;> simp
      · rw [if_neg h2, if_neg h2]
def pd (s : Int) : Nat := if s = -1 then 7 else if s = 0 then 15 else if s = 1 then 18 else 0
def er (s : Int) : Int := if s = -1 then 0 else if s = 0 then 0 else if s = 1 then 0 else 1
theorem rdigits_is (s : Int) : environref02_Digits.f s = some ((pd s : Int), er s) := by
  unfold environref02_Digits.f pd er
  split
  · rfl
  · split
    · rfl
    · split <;> rfl
theorem pd_of {s : Int} (h : er s = 0) : pd s = 7 ∨ pd s = 15 ∨ pd s = 18 := by
  unfold er at h; unfold pd
  split
  · omega
  · split
    · omega
    · split
      · omega
      · rename_i h1 h2 h3; rw [if_neg h1, if_neg h2, if_neg h3] at h; omega
theorem er_or (s : Int) : er s = 0 ∨ er s = 1 := by
  unfold er; split
  · omega
  · split
    · omega
    · split <;> omega
theorem nines (p : Nat) : dl (10 ^ p - 1) = List.replicate p 9 := by
  induction p with
  | zero => rw [Nat.pow_zero, Nat.sub_self, dl_zero]; rfl
  | succ p ih =>
    have z := p10 p
    have e : 10 ^ (p + 1) = 10 * 10 ^ p := by rw [Nat.pow_succ, Nat.mul_comm]
    rw [dl_pos (by omega), List.replicate_succ, ← ih]
    congr 1
    · omega
    · congr 1; omega
theorem most_l0 (p : Nat) (hp : p ≤ 18) (neg : Bool) (l : List Int) (e : Int) (more : Bool) (hp0 : p ≠ 0) : ∀ (n i : Nat), i + n = p → Ev (fun k => environref02_Rounded.l0 k (p : Int) (List.replicate i 9) (i : Int) neg l e more) (sgn neg (10 ^ p - 1), 400, 0) := by
  intro n
  induction n with
  | zero =>
    intro i hi
    obtain rfl : i = p := by omega
    refine Ev.step (f := fun k => (environref02_form.f k neg (List.replicate i 9) 400).bind fun t => some (t.1, t.2, 0)) (fun k => ?_) ?_
    · simp only [environref02_Rounded.l0]; rw [if_neg (by omega)]
    rw [← nines]
    have h18 : 10 ^ i ≤ 10 ^ 18 := Nat.pow_le_pow_right (by decide) hp
    have h := form_is neg (n := 10 ^ i - 1) (e := 400) (by omega) (by omega) (by omega)
    have hm : (10 ^ i - 1) % 10 ≠ 0 := by
      have e : 10 ^ i = 10 * 10 ^ (i - 1) := by rw [Nat.mul_comm, ← Nat.pow_succ]; congr 1; omega
      have := p10 (i - 1); omega
    rw [strip_ok (fun h => by rw [h] at hm; exact absurd rfl hm) (fun _ => hm)] at h
    exact Ev.bind h (Ev.now _)
  | succ n ih =>
    intro i hi
    refine Ev.step (fun k => ?_) (ih (i + 1) (by omega))
    simp only [environref02_Rounded.l0]; rw [if_pos (by omega), if_pos (by rw [List.length_replicate]; omega), x64 (by omega) (by omega), List.replicate_succ']
    rfl
def flat (r : (Int × Int) × Int) : Int × Int × Int := (r.1.1, r.1.2, r.2)
theorem j4_is (p : Nat) (hp : p ≤ 18) (hp0 : p ≠ 0) (b neg : Bool) (l : List Int) (e : Int) (more : Bool) :
    Ev (fun k => environref02_Rounded.j4 k (p : Int) b neg l e more) (if b = true then (sgn neg (10 ^ p - 1), 400, 0) else (0, 0, 11)) := by
  cases b
  · refine Ev.step (f := fun _ => some (0, 0, 11)) (fun k => ?_) (Ev.now _)
    simp only [environref02_Rounded.j4]; rw [if_neg (by simp)]
  · refine Ev.step (fun k => ?_) (most_l0 p hp neg l e more hp0 p 0 (by omega))
    simp only [environref02_Rounded.j4]; rw [if_pos trivial]; rfl
theorem j3_is (p : Nat) (hp : p ≤ 18) (hp0 : p ≠ 0) (how : Int) (h0 : 0 ≤ how) (h3 : how ≤ 3) (neg : Bool) (q : Nat) (hq : q ≤ 10 ^ p) (t : Int) (ht : -50000 ≤ t) (ht2 : t ≤ 50000) (hz : q = 0 → t ≤ p + 400) (l : List Int) (e : Int) (more : Bool) :
    Ev (fun k => environref02_Rounded.j3 k how (p : Int) t (dl q) neg l e more) (flat (fin p how neg q t)) := by
  have h18 : 10 ^ p ≤ 10 ^ 18 := Nat.pow_le_pow_right (by decide) hp
  have hdq := dg_small (n := q) (by omega)
  have hw1 : Aside0 (wrap64 (((dl q).length : Int) + t) = (dg q : Int) + t) := ⟨by rw [len_dl]; exact x64 (by omega) (by omega)⟩
  have hw2 : Aside0 (wrap64 ((p : Int) + 400) = (p : Int) + 400) := ⟨x64 (by omega) (by omega)⟩
  by_cases hle : (dg q : Int) + t ≤ p + 400
  · refine Ev.step (f := fun k => (environref02_form.f k neg (dl q) t).bind fun r => some (r.1, r.2, 0)) (fun k => ?_) ?_
    · simp only [environref02_Rounded.j3]; rw [hw1.out, hw2.out, if_pos hle]
    have hfin : flat (fin p how neg q t) = (sgn neg (strip q t).1, (strip q t).2, 0) := by
      unfold fin
      by_cases h : q = 0
      · subst h
        rw [if_pos rfl]
        have h : strip 0 t = (0, 0) := by unfold strip; simp
        rw [h]
        have : sgn neg 0 = 0 := by unfold sgn; cases neg <;> rfl
        rw [this]; rfl
      · rw [if_neg h, if_neg (by omega)]; rfl
    rw [hfin]
    exact Ev.bind (form_is neg (by omega) (by omega) (by omega)) (Ev.now _)
  · have hq0 : q ≠ 0 := by rintro rfl; rw [dg_zero] at hle; have := hz rfl; omega
    have key : ∀ b : Bool, (∀ k, environref02_Rounded.j3 (k + 1) how (p : Int) t (dl q) neg l e more = environref02_Rounded.j4 k (p : Int) b neg l e more) → (b = true ↔ ¬ (how = 0 ∨ how = 1 ∧ neg = false ∨ how = 2 ∧ neg = true)) → Ev (fun k => environref02_Rounded.j3 k how (p : Int) t (dl q) neg l e more) (flat (fin p how neg q t)) := by
      intro b hb hiff
      have hfin : flat (fin p how neg q t) = if b = true then (sgn neg (10 ^ p - 1), 400, 0) else (0, 0, 11) := by
        unfold fin
        rw [if_neg hq0, if_pos (by omega)]
        by_cases hc : how = 0 ∨ how = 1 ∧ neg = false ∨ how = 2 ∧ neg = true
        · rw [if_pos hc, if_neg (fun h => hiff.1 h hc)]; rfl
        · rw [if_neg hc, if_pos (hiff.2 hc)]; rfl
      rw [hfin]
      exact Ev.step hb (j4_is p hp hp0 b neg l e more)
    have hh : how = 0 ∨ how = 1 ∨ how = 2 ∨ how = 3 := by omega
    rcases hh with rfl | rfl | rfl | rfl
    · refine key false (fun k => ?_) (by simp)
      simp only [environref02_Rounded.j3]; rw [hw1.out, hw2.out, if_neg hle, if_neg (by decide), if_neg (by decide), if_neg (by decide)]
    · refine key neg (fun k => ?_) (by cases neg <;> simp)
      simp only [environref02_Rounded.j3]; rw [hw1.out, hw2.out, if_neg hle, if_neg (by decide), if_neg (by decide), if_pos trivial]
    · refine key (!neg) (fun k => ?_) (by cases neg <;> simp)
      simp only [environref02_Rounded.j3]; rw [hw1.out, hw2.out, if_neg hle, if_neg (by decide), if_pos trivial]
      cases neg
      · rw [if_neg (by decide)]; rfl
      · rw [if_pos rfl, if_neg (by decide)]; rfl
    · refine key true (fun k => ?_) (by simp)
      simp only [environref02_Rounded.j3]; rw [hw1.out, hw2.out, if_neg hle, if_pos trivial]
theorem sd_or (r m : Nat) (more : Bool) : sdS r m more = -1 ∨ sdS r m more = 0 ∨ sdS r m more = 1 := by
  unfold sdS; split
  · split <;> simp
  · split <;> simp
theorem cut_or (n d : Nat) (more : Bool) : (cutG n d more).2.1 = -1 ∨ (cutG n d more).2.1 = 0 ∨ (cutG n d more).2.1 = 1 := by
  unfold cutG; split
  · simp
  · exact sd_or _ _ _
theorem j2_is (p : Nat) (hp : p ≤ 18) (hp0 : p ≠ 0) (how : Int) (h0 : 0 ≤ how) (h3 : how ≤ 3) (neg : Bool) (c : Nat × Int × Bool) (hc : c.2.1 = -1 ∨ c.2.1 = 0 ∨ c.2.1 = 1) (hq : up how neg c ≤ 10 ^ p) (t : Int) (ht : -50000 ≤ t) (ht2 : t ≤ 50000) (hz : up how neg c = 0 → t ≤ p + 400) (l : List Int) (e : Int) (more : Bool) :
    Ev (fun k => environref02_Rounded.j2 k how (p : Int) t (dl c.1) (c.2.1 + 1) c.2.2 neg l e more) (flat (fin p how neg (up how neg c) t)) := by
  have h18 : 10 ^ p ≤ 10 ^ 18 := Nat.pow_le_pow_right (by decide) hp
  have haw := away_is how neg c.1 c.2.1 c.2.2 hc
  have hj := j3_is p hp hp0 how h0 h3 neg (up how neg c) hq t ht ht2 hz l e more
  by_cases ha : awayS how neg (decide (c.1 % 2 = 1)) c.2.1 c.2.2 = true
  · have hu : up how neg c = c.1 + 1 := by unfold up; rw [if_pos ha]
    rw [ha] at haw
    refine Ev.step (f := fun k => (environref02_Of.f k 1).bind fun t372 => (environref02_plus.f k (dl c.1) t372).bind fun t375 => environref02_Rounded.j3 k how p t t375 neg l e more) (fun k => ?_) ?_
    · simp only [environref02_Rounded.j2]; rw [haw]; simp only [Option.bind_some, if_true]
    have hd1 := dg_small (n := c.1) (by omega)
    have hd2 : dg 1 ≤ 100000 := by rw [dg_pos (by decide), dg_zero]; decide
    have ho := of_is (m := 1) (by decide) (by decide)
    have hp1 := plus_is' (a := c.1) (b := 1) (by omega) hd2
    rw [hu] at hj ⊢
    exact Ev.bind ho (Ev.bind hp1 hj)
  · have hu : up how neg c = c.1 := by unfold up; rw [if_neg ha]; rfl
    have ha' : awayS how neg (decide (c.1 % 2 = 1)) c.2.1 c.2.2 = false := by simpa using ha
    rw [ha'] at haw
    rw [hu] at hj ⊢
    refine Ev.step (fun k => ?_) hj
    simp only [environref02_Rounded.j2]; rw [haw]; simp only [Option.bind_some, Bool.false_eq_true, if_false]
theorem rnd_zero (p : Nat) (how : Int) (neg : Bool) (e : Int) : rnd p how neg 0 e false = ((0, 0), 0) := by
  unfold rnd
  have h : ∀ d, cutG 0 d false = (0, -1, false) := by
    intro d; have := cut_exact 0 d d (Nat.le_refl _); simpa using this
  rw [h, up_exact]; unfold fin; simp
theorem rounded_is {s : Int} (hs : er s = 0) (how : Int) (h0 : 0 ≤ how) (h3 : how ≤ 3) (neg : Bool) (n : Nat) (e : Int) (more : Bool) (hnz : n ≠ 0 ∨ more = false) (hn : dg n ≤ 5000) (he : -15000 ≤ e) (he2 : e ≤ 15000) :
    Ev (fun k => environref02_Rounded.f k s how neg (dl n) e more) (flat (rnd (pd s) how neg n e more)) := by
  have hp := pd_of hs
  have hlen := len_dl n
  by_cases hz : n = 0
  · subst hz
    obtain rfl : more = false := by rcases hnz with h | h; exact absurd rfl h; exact h
    rw [rnd_zero, dl_zero]
    refine Ev.congr (f := fun k => environref02_Rounded.j0 k how (pd s) true neg [] e false) (fun k => ?_) ?_
    · unfold environref02_Rounded.f; rw [rdigits_is]; simp only [Option.bind_some]; rw [if_pos (by simp)]; rfl
    refine Ev.step (f := fun k => some (0, 0, 0)) (fun k => ?_) (Ev.now _)
    simp only [environref02_Rounded.j0]; rw [if_pos trivial]
  · have hdp := dg_pos hz
    have hup := up_lt (pd s) how neg n e more
    have hcq := cut_or n (dropS (pd s) n e) more
    have hg := (show -400 ≤ e + (dropS (pd s) n e : Int) by unfold dropS; omega)
    have hq0 : up how neg (cutG n (dropS (pd s) n e) more) = 0 → e + dropS (pd s) n e ≤ pd s + 400 := by
      intro hu
      have h1 := (up_le how neg n (dropS (pd s) n e) more).1
      rw [hu] at h1
      have h2 := dg_div n (dropS (pd s) n e)
      rw [Nat.le_zero.1 h1, dg_zero] at h2
      unfold dropS at *; omega
    have hj2 := j2_is (pd s) (by omega) (by omega) how h0 h3 neg (cutG n (dropS (pd s) n e) more) hcq hup (e + dropS (pd s) n e) (by omega) (by unfold dropS; omega) hq0 (dl n) e more
    have hD : dropS (pd s) n e = max (dg n - pd s) (-400 - e).toNat := rfl
    have j1 : Ev (fun k => environref02_Rounded.j1 k how (pd s) (max (e + dg n - pd s) (-400)) neg (dl n) e more) (flat (rnd (pd s) how neg n e more)) := by
      by_cases hd : dropS (pd s) n e = 0
      · unfold rnd
        rw [hd] at hj2 ⊢
        rw [Int.natCast_zero, Int.add_zero] at *
        refine Ev.step (fun k => ?_) hj2
        simp only [environref02_Rounded.j1]; rw [if_neg (by omega)]; rfl
      · refine Ev.step (f := fun k => (environref02_cut.f k neg (dl n) e more (dropS (pd s) n e : Nat)).bind fun b => environref02_Rounded.j2 k how (pd s) (e + dropS (pd s) n e) b.1 b.2.1 b.2.2 neg (dl n) e more) (fun k => ?_) ?_
        · simp only [environref02_Rounded.j1]; rw [if_pos (by omega), x64 (by omega) (by omega)]
          have e1 : max (e + (dg n : Int) - (pd s : Int)) (-400) = e + ((dropS (pd s) n e : Nat) : Int) := by omega
          rw [e1, show e + ((dropS (pd s) n e : Nat) : Int) - e = ((dropS (pd s) n e : Nat) : Int) by omega]
        exact Ev.bind (cut_is neg n e more (dropS (pd s) n e) hd (.inl hz) (by omega) (by omega)) hj2
    refine Ev.congr (f := fun k => environref02_Rounded.j0 k how (pd s) false neg (dl n) e more) (fun k => ?_) ?_
    · unfold environref02_Rounded.f; rw [rdigits_is]; simp only [Option.bind_some]; rw [if_neg (by omega)]
    refine Ev.step (fun k => ?_) j1
    simp only [environref02_Rounded.j0]; rw [if_neg (by simp), x64 (n := e + ((dl n).length : Int)) (by omega) (by omega), x64 (n := e + ((dl n).length : Int) - (pd s : Int)) (by omega) (by omega), hlen]
    by_cases h4 : e + (dg n : Int) - (pd s : Int) < -400
    · rw [if_pos h4, show max (e + (dg n : Int) - (pd s : Int)) (-400) = -400 by omega]
    · rw [if_neg h4, show max (e + (dg n : Int) - (pd s : Int)) (-400) = e + (dg n : Int) - (pd s : Int) by omega]
def okB (p n : Nat) (e : Int) : Bool := if n = 0 then decide (e = 0) else decide (n % 10 ≠ 0 ∧ dg n ≤ p ∧ -400 ≤ e ∧ e + dg n ≤ p + 400)
theorem rvalid_is (s m e : Int) (hm : -9223372036854775808 ≤ m) (hm2 : m ≤ 9223372036854775807) : Ev (fun k => environref02_Valid.f k s m e) (decide (er s = 0) && okB (pd s) m.natAbs e) := by
  by_cases hs : er s = 0
  · have hp := pd_of hs
    rw [hs, show decide ((0 : Int) = 0) = true from rfl, Bool.true_and]
    unfold okB
    by_cases h0 : m = 0
    · subst h0
      refine Ev.congr (f := fun _ => some (decide (e = 0))) (fun k => ?_) (Ev.now _)
      unfold environref02_Valid.f; rw [rdigits_is]; simp only [Option.bind_some]; rw [if_pos hs, if_pos trivial]; rfl
    · have hz : m.natAbs ≠ 0 := by omega
      have hdp := dg_pos hz
      have hds := dg_small (n := m.natAbs) (by omega)
      have hlen := len_dl m.natAbs
      have hr := rd_dl (n := m.natAbs) (i := 0) (by omega)
      rw [Nat.pow_zero, Nat.div_one] at hr
      rw [if_neg hz]
      refine Ev.congr (f := fun k => (environref02_Of.f k m).bind fun t269 => (if 0 < (t269.length : Int) then (if (rd t269 0) = 0 then (some false) else (if (t269.length : Int) ≤ pd s then (if e ≥ (-400) then (some (decide (e ≤ (wrap64 ((wrap64 ((pd s : Int) + 400)) - (t269.length : Int)))))) else (some false)) else (some false))) else (none))) (fun k => ?_) ?_
      · unfold environref02_Valid.f; rw [rdigits_is]; simp only [Option.bind_some]; rw [if_pos hs, if_neg h0]
      refine Ev.bind (of_is hm hm2) ?_
      have hw : wrap64 ((wrap64 ((pd s : Int) + 400)) - ((dl m.natAbs).length : Int)) = (pd s : Int) + 400 - dg m.natAbs := by
        rw [hlen, x64 (n := (pd s : Int) + 400) (by omega) (by omega), x64 (by omega) (by omega)]
      rw [if_pos (by omega), hw]
      clear hw
      rw [show rd (dl m.natAbs) 0 = ((m.natAbs % 10 : Nat) : Int) from hr]
      by_cases h1 : m.natAbs % 10 = 0
      · rw [if_pos (by omega), decide_eq_false (fun h => h.1 h1)]; exact Ev.now _
      · rw [if_neg (by omega)]
        by_cases h2 : dg m.natAbs ≤ pd s
        · rw [if_pos (by omega)]
          by_cases h3 : -400 ≤ e
          · rw [if_pos h3]
            have : decide (e ≤ (pd s : Int) + 400 - dg m.natAbs) = decide (m.natAbs % 10 ≠ 0 ∧ dg m.natAbs ≤ pd s ∧ -400 ≤ e ∧ e + dg m.natAbs ≤ pd s + 400) := by
              rw [decide_eq_decide]; constructor
              · intro h; exact ⟨h1, h2, h3, by omega⟩
              · intro h; omega
            rw [this]; exact Ev.now _
          · rw [if_neg h3, decide_eq_false (fun h => h3 h.2.2.1)]; exact Ev.now _
        · rw [if_neg (by omega), decide_eq_false (fun h => h2 h.2.1)]; exact Ev.now _
  · refine Ev.congr (f := fun _ => some false) (fun k => ?_) ?_
    · unfold environref02_Valid.f; rw [rdigits_is]; simp only [Option.bind_some]; rw [if_neg hs]
    rw [decide_eq_false hs, Bool.false_and]; exact Ev.now _
/-- what is wrong with a size, a direction and two numbers -/
def rightS (s how : Int) (a b : Bool) : Int := if er s = 0 ∧ 0 ≤ how ∧ how ≤ 3 then (if a && b then 0 else 11) else 1
theorem right_is (s how m e n f : Int) (hm : -9223372036854775808 ≤ m) (hm2 : m ≤ 9223372036854775807) (hn : -9223372036854775808 ≤ n) (hn2 : n ≤ 9223372036854775807) :
    Ev (fun k => environref02_right.f k s how m e n f) (rightS s how (okB (pd s) m.natAbs e) (okB (pd s) n.natAbs f)) := by
  unfold rightS
  have hv1 := rvalid_is s m e hm hm2
  have hv2 := rvalid_is s n f hn hn2
  rcases er_or s with hs | hs
  · rw [hs, show decide ((0 : Int) = 0) = true from rfl, Bool.true_and] at hv1 hv2
    have hbad : Ev (fun k => environref02_right.j0 k s true m e n f) 1 := by
      refine Ev.step (f := fun _ => some 1) (fun k => ?_) (Ev.now _)
      simp only [environref02_right.j0]; rw [if_pos trivial]
    by_cases h0 : how < 0
    · rw [if_neg (by omega)]
      refine Ev.congr (fun k => ?_) hbad
      unfold environref02_right.f; rw [rdigits_is]; simp only [Option.bind_some]; rw [if_pos hs, if_pos h0]
    · by_cases h3 : how > 3
      · rw [if_neg (by omega)]
        refine Ev.congr (fun k => ?_) hbad
        unfold environref02_right.f; rw [rdigits_is]; simp only [Option.bind_some]; rw [if_pos hs, if_neg h0, decide_eq_true h3]
      · rw [if_pos ⟨hs, by omega, by omega⟩]
        refine Ev.congr (f := fun k => environref02_right.j0 k s false m e n f) (fun k => ?_) ?_
        · unfold environref02_right.f; rw [rdigits_is]; simp only [Option.bind_some]; rw [if_pos hs, if_neg h0, decide_eq_false h3]
        refine Ev.step (f := fun k => (environref02_Valid.f k s m e).bind fun t277 => if t277 = true then ((environref02_Valid.f k s n f).bind fun t278 => (if t278 = true then (some 0) else (some 11))) else (some 11)) (fun k => ?_) ?_
        · simp only [environref02_right.j0]; rw [if_neg (by simp)]
        refine Ev.bind hv1 ?_
        cases okB (pd s) m.natAbs e
        · exact Ev.now _
        · refine Ev.bind hv2 ?_
          cases okB (pd s) n.natAbs f <;> exact Ev.now _
  · rw [if_neg (by omega)]
    refine Ev.congr (f := fun _ => some 1) (fun k => ?_) (Ev.now _)
    unfold environref02_right.f; rw [rdigits_is]; simp only [Option.bind_some]; rw [if_neg (by omega), hs]
theorem exactly_is (m e : Int) (hm : -9223372036854775808 ≤ m) (hm2 : m ≤ 9223372036854775807) : Ev (fun k => environref02_Exactly.f k m e) (decide (m < 0), dl m.natAbs, e, false) := by
  unfold environref02_Exactly.f; exact Ev.bind (of_is hm hm2) (Ev.now _)
theorem pdigits_is (s : Int) : reals_Digits.f s = some ((pd s : Int), er s) := by
  unfold reals_Digits.f pd er
  split
  · rfl
  · split
    · rfl
    · split <;> rfl
theorem hl_small {n : Nat} (h : n < 18446744073709551616) : hiw n = 0 ∧ low n = (n : Int) := by
  unfold hiw low; omega
theorem mag_is {m : Int} (h : -9223372036854775808 ≤ m) (h' : m ≤ 9223372036854775807) : reals_magnitude.f m = some (hiw m.natAbs, low m.natAbs) := by
  have hs := hl_small (n := m.natAbs) (by omega)
  rw [hs.1, hs.2]
  unfold reals_magnitude.f
  simp only [IntKind.wrap_u64]
  split
  · congr 2; omega
  · congr 2; omega
theorem two128 {n : Nat} (h : n ≤ 9223372036854775808) : n < 340282366920938463463374607431768211456 := by omega
theorem pdig_is {n : Nat} (h : n < 340282366920938463463374607431768211456) : reals_wide_digits.f (hiw n) (low n) = some ((dg n : Nat) : Int) := by
  unfold reals_wide_digits.f
  have hu := hl_u h
  rw [if_pos hu, wv_hl]
theorem tmod_ten (m : Int) : (Int.tmod m 10 = 0) ↔ m.natAbs % 10 = 0 := by
  rcases Int.lt_or_le m 0 with h | h
  · have : m = -((m.natAbs : Nat) : Int) := by omega
    generalize m.natAbs = n at *
    subst this
    rw [Int.neg_tmod, Int.tmod_eq_emod_of_nonneg (by omega)]; omega
  · have : m = ((m.natAbs : Nat) : Int) := by omega
    generalize m.natAbs = n at *
    subst this
    rw [Int.tmod_eq_emod_of_nonneg (by omega)]; omega
theorem valid_j0 (k : Nat) (h l p e : Int) (d : Nat) (m : Int) (hm : reals_magnitude.f m = some (h, l)) (hd : reals_wide_digits.f h l = some (d : Int)) : reals_Valid.j0 (k + 1) p false m e = some (decide ((wrap64 (d + (mx (wrap64 (e - 400)) 0))) ≤ p)) := by
  simp only [reals_Valid.j0]; rw [if_neg (by simp), hm]; simp only [Option.bind_some]; rw [hd]; simp only [Option.bind_some]
theorem pvalid_is (s m e : Int) (hm : -9223372036854775808 ≤ m) (hm2 : m ≤ 9223372036854775807) : Ev (fun k => reals_Valid.f k s m e) (decide (er s = 0) && okB (pd s) m.natAbs e) := by
  by_cases hs : er s = 0
  · have hp := pd_of hs
    rw [hs, show decide ((0 : Int) = 0) = true from rfl, Bool.true_and]
    unfold okB
    by_cases h0 : m = 0
    · subst h0
      refine Ev.congr (f := fun _ => some (decide (e = 0))) (fun k => ?_) (Ev.now _)
      unfold reals_Valid.f; rw [pdigits_is]; simp only [Option.bind_some]; rw [if_pos hs, if_pos trivial]; rfl
    · have hz : m.natAbs ≠ 0 := by omega
      have hds := dg_small (n := m.natAbs) (by omega)
      have hdg := pdig_is (two128 (n := m.natAbs) (by omega))
      have hmg := mag_is hm hm2
      rw [if_neg hz]
      have bad : Ev (fun k => reals_Valid.j0 k (pd s) true m e) false := by
        refine Ev.step (f := fun _ => some false) (fun k => ?_) (Ev.now _)
        simp only [reals_Valid.j0]; rw [if_pos trivial]
      by_cases h1 : m.natAbs % 10 = 0
      · rw [decide_eq_false (fun h => h.1 h1)]
        refine Ev.congr (fun k => ?_) bad
        unfold reals_Valid.f; rw [pdigits_is]; simp only [Option.bind_some]; rw [if_pos hs, if_neg h0, if_pos ((tmod_ten m).2 h1)]
      · have h1' : ¬ Int.tmod m 10 = 0 := fun h => h1 ((tmod_ten m).1 h)
        by_cases h2 : e < -400
        · rw [decide_eq_false (fun h => by have := h.2.2.1; omega)]
          refine Ev.congr (fun k => ?_) bad
          unfold reals_Valid.f; rw [pdigits_is]; simp only [Option.bind_some]; rw [if_pos hs, if_neg h0, if_neg h1', if_pos h2]
        · by_cases h3 : e > 400 + pd s
          · rw [decide_eq_false (fun h => by have := h.2.2.2; omega)]
            refine Ev.congr (fun k => ?_) bad
            unfold reals_Valid.f; rw [pdigits_is]; simp only [Option.bind_some]; rw [if_pos hs, if_neg h0, if_neg h1', if_neg h2, x64 (by omega) (by omega), decide_eq_true h3]
          · refine Ev.congr (f := fun k => reals_Valid.j0 k (pd s) false m e) (fun k => ?_) ?_
            · unfold reals_Valid.f; rw [pdigits_is]; simp only [Option.bind_some]; rw [if_pos hs, if_neg h0, if_neg h1', if_neg h2, x64 (by omega) (by omega), decide_eq_false h3]
            refine Ev.step (f := fun _ => some (decide (((dg m.natAbs : Nat) : Int) + mx (e - 400) 0 ≤ pd s))) (fun k => ?_) ?_
            · rw [valid_j0 k _ _ _ e _ m hmg hdg]
              rw [x64 (n := e - 400) (by omega) (by omega), x64 (by unfold mx; split <;> omega) (by unfold mx; split <;> omega)]
            have : decide (((dg m.natAbs : Nat) : Int) + mx (e - 400) 0 ≤ pd s) = decide (m.natAbs % 10 ≠ 0 ∧ dg m.natAbs ≤ pd s ∧ -400 ≤ e ∧ e + dg m.natAbs ≤ pd s + 400) := by
              rw [decide_eq_decide]; unfold mx; constructor
              · intro h; split at h <;> exact ⟨h1, by omega, by omega, by omega⟩
              · rintro ⟨a, b, c, d⟩; split <;> omega
            rw [this]; exact Ev.now _
  · refine Ev.congr (f := fun _ => some false) (fun k => ?_) ?_
    · unfold reals_Valid.f; rw [pdigits_is]; simp only [Option.bind_some]; rw [if_neg hs]
    rw [decide_eq_false hs, Bool.false_and]; exact Ev.now _
/-- what check returns -/
def checkS (s how : Int) (ok : Bool) : Int × Int := if er s = 0 ∧ 0 ≤ how ∧ how ≤ 3 then (if ok = true then ((pd s : Int), 0) else (0, 11)) else (0, 1)
theorem check_l0 (s : Int) (hs : er s = 0) (l : List S29) (hl : ∀ x ∈ l, -9223372036854775808 ≤ x.f0 ∧ x.f0 ≤ 9223372036854775807) (hn : l.length ≤ 1000) : ∀ (n i : Nat), i + n = l.length →
    Ev (fun k => reals_check.l0 k s (pd s) l (l.length : Int) (i : Int)) (if (l.drop i).all (fun x => okB (pd s) x.f0.natAbs x.f1) = true then ((pd s : Int), 0) else (0, 11)) := by
  intro n
  induction n with
  | zero =>
    intro i hi
    rw [List.drop_eq_nil_of_le (by omega)]
    refine Ev.step (f := fun _ => some ((pd s : Int), 0)) (fun k => ?_) (Ev.now _)
    simp only [reals_check.l0]; rw [if_neg (by omega)]
  | succ n ih =>
    intro i hi
    have hlt : i < l.length := by omega
    have hrd : rd_T29 l (i : Int) = l[i] := by unfold rd_T29; rw [Int.toNat_natCast, List.getD_eq_getElem?_getD, List.getElem?_eq_getElem hlt]; rfl
    have hb := hl l[i] (List.getElem_mem hlt)
    have hv := pvalid_is s l[i].f0 l[i].f1 hb.1 hb.2
    rw [hs, show decide ((0 : Int) = 0) = true from rfl, Bool.true_and] at hv
    rw [List.drop_eq_getElem_cons hlt, List.all_cons]
    refine Ev.step (f := fun k => (reals_Valid.f k s l[i].f0 l[i].f1).bind fun t112 => if t112 = true then reals_check.l0 k s (pd s) l (l.length : Int) ((i + 1 : Nat) : Int) else some (0, 11)) (fun k => ?_) ?_
    · simp only [reals_check.l0]; rw [if_pos (by omega), if_pos (by omega), if_pos (by omega), hrd, x64 (by omega) (by omega)]; rfl
    refine Ev.bind hv ?_
    cases okB (pd s) l[i].f0.natAbs l[i].f1
    · exact Ev.now _
    · rw [Bool.true_and]; exact ih (i + 1) (by omega)
theorem check_is (s how : Int) (l : List S29) (hl : ∀ x ∈ l, -9223372036854775808 ≤ x.f0 ∧ x.f0 ≤ 9223372036854775807) (hn : l.length ≤ 1000) : Ev (fun k => reals_check.f k s how l) (checkS s how (l.all fun x => okB (pd s) x.f0.natAbs x.f1)) := by
  unfold checkS
  have bad : ∀ p : Int, Ev (fun k => reals_check.j0 k s l p true) (0, 1) := by
    intro p
    refine Ev.step (f := fun _ => some (0, 1)) (fun k => ?_) (Ev.now _)
    simp only [reals_check.j0]; rw [if_pos trivial]
  rcases er_or s with hs | hs
  · by_cases h0 : how < 0
    · rw [if_neg (by omega)]
      refine Ev.congr (fun k => ?_) (bad (pd s))
      unfold reals_check.f; rw [pdigits_is]; simp only [Option.bind_some]; rw [if_pos hs, if_pos h0]
    · by_cases h3 : how > 3
      · rw [if_neg (by omega)]
        refine Ev.congr (fun k => ?_) (bad (pd s))
        unfold reals_check.f; rw [pdigits_is]; simp only [Option.bind_some]; rw [if_pos hs, if_neg h0, decide_eq_true h3]
      · rw [if_pos ⟨hs, by omega, by omega⟩]
        refine Ev.congr (f := fun k => reals_check.j0 k s l (pd s) false) (fun k => ?_) ?_
        · unfold reals_check.f; rw [pdigits_is]; simp only [Option.bind_some]; rw [if_pos hs, if_neg h0, decide_eq_false h3]
        refine Ev.step (fun k => ?_) (check_l0 s hs l hl hn l.length 0 (by omega))
        simp only [reals_check.j0]; rw [if_neg (by simp)]; rfl
  · rw [if_neg (by omega)]
    refine Ev.congr (fun k => ?_) (bad (pd s))
    unfold reals_check.f; rw [pdigits_is]; simp only [Option.bind_some]; rw [if_neg (by omega)]
theorem plus_is {n m : Nat} (h : n + m < 340282366920938463463374607431768211456) : reals_wide_plus.f (hiw n) (low n) (hiw m) (low m) = some (hiw (n + m), low (n + m)) := by
  unfold reals_wide_plus.f
  have h1 := hl_u (n := n) (by omega)
  have h2 := hl_u (n := m) (by omega)
  rw [if_pos ⟨h1.1, h1.2, h2.1, h2.2⟩]
  unfold hiw low u64s
  congr 2 <;> omega
theorem cutS_is {n : Nat} (h : n < 340282366920938463463374607431768211456) (d : Nat) (more : Bool) : cutS n d more = cutG n d more := by
  unfold cutS cutG
  by_cases h0 : d = 0
  · rw [if_pos h0, if_pos h0]
  · rw [if_neg h0, if_neg h0]
    by_cases h1 : 38 < d
    · rw [if_pos h1]
      have h39 : 10 ^ 39 ≤ 10 ^ d := Nat.pow_le_pow_right (by decide) h1
      have hlt : n < 10 ^ d := by omega
      rw [Nat.div_eq_of_lt hlt, Nat.mod_eq_of_lt hlt]
      have : sdS n (10 ^ d) more = -1 := by unfold sdS; rw [if_neg (by omega), if_pos (by omega)]
      rw [this]
    · rw [if_neg h1]; rfl
theorem pcut_is {n : Nat} (h : n < 340282366920938463463374607431768211456) {d : Nat} (hd : d ≤ 1000000) (more : Bool) : reals_wide_cut.f (hiw n) (low n) (d : Int) more = some (hiw (cutG n d more).1, low (cutG n d more).1, (cutG n d more).2) := by
  unfold reals_wide_cut.f
  rw [if_pos ⟨hl_u h, by omega, by omega⟩, wv_hl, Int.toNat_natCast, cutS_is h]
theorem and_one (z : Int) (h0 : 0 ≤ z) (h1 : z < 18446744073709551616) : Go.bits .and .u64 z 1 = z % 2 := by
  obtain ⟨n, rfl⟩ := Int.eq_ofNat_of_zero_le h0
  have h := bits_and_u64_nat n 1 (by omega) (by decide)
  rw [show (1 : Int) = ((1 : Nat) : Int) from rfl, h, Nat.and_one_is_mod]; rfl
theorem paway_is (how : Int) (h0 : 0 ≤ how) (h3 : how ≤ 3) (neg : Bool) (x y z : Int) (b : Bool) (odd : Bool) (half : Int) (left : Bool) : reals_exact_away.f neg x y z b how odd half left = some (awayS how neg odd half left) := by
  unfold reals_exact_away.f awayS
  have hh : how = 0 ∨ how = 1 ∨ how = 2 ∨ how = 3 := by omega
  rcases hh with rfl | rfl | rfl | rfl
  · rw [if_pos rfl, if_pos rfl]
    by_cases h : half > 0
    · rw [if_pos h, decide_eq_true h]; rfl
    · rw [if_neg h, decide_eq_false h]
      by_cases h' : half = 0
      · rw [if_pos h', decide_eq_true h']; rfl
      · rw [if_neg h', decide_eq_false h']; rfl
  · cases neg <;> cases left <;> rfl
  · cases neg <;> cases left <;> rfl
  · cases neg <;> cases left <;> rfl
theorem over_ev {n c : Nat} (hn : n < 340282366920938463463374607431768211456) (hc0 : 0 < c) (hc : c < 18446744073709551616) : Ev (fun k => reals_wide_over.f k (hiw n) (low n) c) (hiw (n / c), low (n / c), ((n % c : Nat) : Int)) :=
  ⟨14, fun k hk => by obtain ⟨j, rfl⟩ : ∃ j, k = j + 14 := ⟨k - 14, by omega⟩; exact over_is hn hc0 hc j⟩
theorem power_ev {d : Nat} (hd : d ≤ 38) : Ev (fun k => reals_power.f k d) (hiw (10 ^ d), low (10 ^ d)) := ⟨d + 1, fun k hk => power_is hd k (by omega)⟩
theorem scaled_ev {n d : Nat} (hd : d ≤ 1000) (h : n * 10 ^ d < 340282366920938463463374607431768211456) : Ev (fun k => reals_wide_scaled.f k (hiw n) (low n) d) (hiw (n * 10 ^ d), low (n * 10 ^ d)) := ⟨d + 1, fun k hk => scaled_is hd h k (by omega)⟩
theorem round_l0 (neg : Bool) (y z u : Int) (b : Bool) : ∀ (q : Nat) (t : Int), q ≠ 0 → q ≤ 1000000000000000000 → -100000 ≤ t → t + dg q ≤ 100000 → Ev (fun k => reals_exact_round.l0 k t neg y z u b (hiw q) (low q)) (flat (real neg (strip q t))) := by
  intro q
  induction q using Nat.strongRecOn with
  | ind q ih =>
    intro t hq hq2 ht ht2
    have hp := dg_pos hq
    have hs := hl_small (n := q) (by omega)
    by_cases h0 : q % 10 = 0
    · rw [show strip q t = strip (q / 10) (t + 1) by rw [strip, dif_neg hq, if_pos h0]]
      refine Ev.step (f := fun k => (reals_wide_over.f k (hiw q) (low q) 10).bind fun bt151 => (if bt151.2.2 = 0 then (reals_exact_round.l0 k (wrap64 (t + 1)) neg y z u b bt151.1 bt151.2.1) else (if neg = true then (some (wrap64 (-(wrap64 (low q))), t, 0)) else (some (wrap64 (low q), t, 0))))) (fun k => ?_) ?_
      · simp only [reals_exact_round.l0]
      refine Ev.bind (over_ev (c := 10) (by omega) (by decide) (by decide)) ?_
      rw [h0, x64 (by omega) (by omega)]
      exact ih (q / 10) (by omega) (t + 1) (by omega) (by omega) (by omega) (by omega)
    · rw [show strip q t = (q, t) by rw [strip, dif_neg hq, if_neg h0]]
      refine Ev.step (f := fun k => (reals_wide_over.f k (hiw q) (low q) 10).bind fun bt151 => (if bt151.2.2 = 0 then (reals_exact_round.l0 k (wrap64 (t + 1)) neg y z u b bt151.1 bt151.2.1) else (if neg = true then (some (wrap64 (-(wrap64 (low q))), t, 0)) else (some (wrap64 (low q), t, 0))))) (fun k => ?_) ?_
      · simp only [reals_exact_round.l0]
      refine Ev.bind (over_ev (c := 10) (by omega) (by decide) (by decide)) ?_
      have hq9 : q < 1000000000000000000 := by omega
      have hne : ¬ (((q % 10 : Nat) : Int) = 0) := by omega
      have hw1 : wrap64 (q : Int) = q := x64 (by clear hs; omega) (by clear hs; omega)
      have hw2 : wrap64 (-(q : Int)) = -q := x64 (by clear hs hw1; omega) (by clear hs hw1; omega)
      simp only [if_neg hne, hs.2, hw1, hw2]
      unfold flat real sgn
      cases neg
      · simp only [Bool.false_eq_true, if_false]; exact Ev.now _
      · simp only [if_true]; exact Ev.now _
theorem round_j3 (neg : Bool) (y z u : Int) (b : Bool) (q : Nat) (t : Int) (hq : q ≠ 0) (hq2 : q ≤ 1000000000000000000) (ht : -50000 ≤ t) (ht2 : t ≤ 50000) : Ev (fun k => reals_exact_round.j3 k t neg y z u b (hiw q) (low q)) (flat (real neg (strip q t))) := by
  have := dg_small (n := q) (by omega)
  refine Ev.step (fun k => ?_) (round_l0 neg y z u b q t hq hq2 (by omega) (by omega))
  simp only [reals_exact_round.j3]
theorem round_j2 (p : Nat) (hp : p ≤ 18) (hp0 : p ≠ 0) (x neg : Bool) (y z u : Int) (b : Bool) : Ev (fun k => reals_exact_round.j2 k (p : Int) x neg y z u b) (flat (if x = true then ((0, 0), 11) else real neg (10 ^ p - 1, 400))) := by
  cases x
  · have h18 : 10 ^ p ≤ 10 ^ 18 := Nat.pow_le_pow_right (by decide) hp
    have h10 : 10 ^ p = 10 * 10 ^ (p - 1) := by rw [Nat.mul_comm, ← Nat.pow_succ]; congr 1; omega
    have hz := p10 (p - 1)
    refine Ev.step (f := fun k => (reals_power.f k p).bind fun bt147 => (reals_wide_minus.f bt147.1 bt147.2 0 1).bind fun bt149 => reals_exact_round.j3 k 400 neg y z u b bt149.1 bt149.2) (fun k => ?_) ?_
    · simp only [reals_exact_round.j2]; rw [if_neg (by simp)]
    refine Ev.bind (power_ev (by omega)) ?_
    have hm := minus_is (n := 10 ^ p) (m := 1) (by omega) (by omega)
    rw [show hiw 1 = 0 from rfl, show low 1 = 1 from rfl] at hm
    dsimp only
    rw [hm]; simp only [Option.bind_some]
    have h := round_j3 neg y z u b (10 ^ p - 1) 400 (by omega) (by omega) (by omega) (by omega)
    rw [strip_ok (fun h => by omega) (fun _ => by omega)] at h
    exact h
  · refine Ev.step (f := fun _ => some (0, 0, 11)) (fun k => ?_) (Ev.now _)
    simp only [reals_exact_round.j2]; rw [if_pos trivial]
theorem round_j1 (p : Nat) (hp : p ≤ 18) (hp0 : p ≠ 0) (how : Int) (h0 : 0 ≤ how) (h3 : how ≤ 3) (neg : Bool) (y z u : Int) (b : Bool) (q : Nat) (hq : q ≤ 1000000000000000000) (t : Int) (ht : -50000 ≤ t) (ht2 : t ≤ 50000) :
    Ev (fun k => reals_exact_round.j1 k (p : Int) how t neg y z u b (hiw q) (low q)) (flat (if q = 0 then ((0, 0), 0) else if dg q + max (t - 400) 0 > p then (if how = 0 ∨ how = 1 ∧ neg = false ∨ how = 2 ∧ neg = true then ((0, 0), 11) else real neg (10 ^ p - 1, 400)) else real neg (strip q t))) := by
  have hs := hl_small (n := q) (by omega)
  have hd := dg_small (n := q) (by omega)
  by_cases hz : q = 0
  · subst hz
    refine Ev.step (f := fun _ => some (0, 0, 0)) (fun k => ?_) (Ev.now _)
    simp only [reals_exact_round.j1]; rw [if_pos (by decide)]
  · have hb : ¬ ((hiw q == 0 && (low q == 0)) = true) := by
      rw [hs.2, Bool.and_eq_true, beq_iff_eq, beq_iff_eq]; omega
    have hdg := pdig_is (n := q) (by omega)
    have hw : Aside0 (wrap64 (((dg q : Nat) : Int) + (mx (wrap64 (t - 400)) 0)) = (dg q : Int) + max (t - 400) 0) := ⟨by
      rw [x64 (n := t - 400) (by omega) (by omega)]
      have : mx (t - 400) 0 = max (t - 400) 0 := by unfold mx; split <;> omega
      rw [this]; exact x64 (by omega) (by omega)⟩
    rw [if_neg hz]
    by_cases ho : (dg q : Int) + max (t - 400) 0 > p
    · rw [if_pos ho]
      have key : ∀ x : Bool, (∀ k, reals_exact_round.j1 (k + 1) (p : Int) how t neg y z u b (hiw q) (low q) = reals_exact_round.j2 k (p : Int) x neg y z u b) → (x = true ↔ (how = 0 ∨ how = 1 ∧ neg = false ∨ how = 2 ∧ neg = true)) → Ev (fun k => reals_exact_round.j1 k (p : Int) how t neg y z u b (hiw q) (low q)) (flat (if how = 0 ∨ how = 1 ∧ neg = false ∨ how = 2 ∧ neg = true then ((0, 0), 11) else real neg (10 ^ p - 1, 400))) := by
        intro x hx hiff
        have h : Ev (fun k => reals_exact_round.j1 k (p : Int) how t neg y z u b (hiw q) (low q)) _ := Ev.step hx (round_j2 p hp hp0 x neg y z u b)
        by_cases hc : how = 0 ∨ how = 1 ∧ neg = false ∨ how = 2 ∧ neg = true
        · rw [if_pos (hiff.2 hc)] at h; rw [if_pos hc]; exact h
        · rw [if_neg (fun h => hc (hiff.1 h))] at h; rw [if_neg hc]; exact h
      have hh : how = 0 ∨ how = 1 ∨ how = 2 ∨ how = 3 := by omega
      rcases hh with rfl | rfl | rfl | rfl
      · refine key true (fun k => ?_) (by simp)
        simp only [reals_exact_round.j1]; rw [if_neg hb, hdg]; simp only [Option.bind_some]; rw [hw.out, if_pos ho, if_pos trivial]
      · refine key (!neg) (fun k => ?_) (by cases neg <;> simp)
        simp only [reals_exact_round.j1]; rw [if_neg hb, hdg]; simp only [Option.bind_some]; rw [hw.out, if_pos ho, if_neg (by decide), if_pos trivial]
        cases neg
        · rw [if_neg (by decide)]; rfl
        · rw [if_pos rfl, if_neg (by decide)]; rfl
      · refine key neg (fun k => ?_) (by cases neg <;> simp)
        simp only [reals_exact_round.j1]; rw [if_neg hb, hdg]; simp only [Option.bind_some]; rw [hw.out, if_pos ho, if_neg (by decide), if_neg (by decide), if_pos trivial]
      · refine key false (fun k => ?_) (by simp)
        simp only [reals_exact_round.j1]; rw [if_neg hb, hdg]; simp only [Option.bind_some]; rw [hw.out, if_pos ho, if_neg (by decide), if_neg (by decide), if_neg (by decide)]
    · rw [if_neg ho]
      refine Ev.step (fun k => ?_) (round_j3 neg y z u b q t hz hq ht ht2)
      simp only [reals_exact_round.j1]; rw [if_neg hb, hdg]; simp only [Option.bind_some]; rw [hw.out, if_neg ho]
theorem round_j0 (p : Nat) (hp : p ≤ 18) (hp0 : p ≠ 0) (how : Int) (h0 : 0 ≤ how) (h3 : how ≤ 3) (neg : Bool) (y z u : Int) (b : Bool) (q : Nat) (hq : q ≤ 10 ^ p) (d : Int) (ht : -40000 ≤ u + d) (ht2 : u + d ≤ 40000) :
    Ev (fun k => reals_exact_round.j0 k (p : Int) how d neg y z u b (hiw q) (low q)) (flat (fin p how neg q (u + d))) := by
  have h18 : 10 ^ p ≤ 10 ^ 18 := Nat.pow_le_pow_right (by decide) hp
  have hdg := pdig_is (n := q) (by omega)
  have hw : Aside0 (wrap64 (u + d) = u + d) := ⟨x64 (by omega) (by omega)⟩
  have hw2 : Aside0 (wrap64 (u + d + 1) = u + d + 1) := ⟨x64 (by omega) (by omega)⟩
  rw [← finP_is hp0 how neg hq]
  unfold finP
  by_cases h : dg q > p
  · simp only [if_pos h]
    refine Ev.step (f := fun k => (reals_wide_over.f k (hiw q) (low q) 10).bind fun bt143 => reals_exact_round.j1 k p how (u + d + 1) neg y z u b bt143.1 bt143.2.1) (fun k => ?_) ?_
    · simp only [reals_exact_round.j0]; rw [hdg]; simp only [Option.bind_some]; rw [if_pos (by omega), hw.out, hw2.out]
    refine Ev.bind (over_ev (c := 10) (by omega) (by decide) (by decide)) ?_
    exact round_j1 p hp hp0 how h0 h3 neg y z u b (q / 10) (by omega) (u + d + 1) (by omega) (by omega)
  · simp only [if_neg h]
    refine Ev.step (fun k => ?_) (round_j1 p hp hp0 how h0 h3 neg y z u b q (by omega) (u + d) (by omega) (by omega))
    simp only [reals_exact_round.j0]; rw [hdg]; simp only [Option.bind_some]; rw [if_neg (by omega), hw.out]
theorem round_step (k : Nat) (neg : Bool) (H L e : Int) (more : Bool) (p how t d CH CL half : Int) (ine odd a : Bool) (hdg : reals_wide_digits.f H L = some t) (hdrop : mx (mx (wrap64 (t - p)) (wrap64 ((-400) - e))) 0 = d) (hcut : reals_wide_cut.f H L d more = some (CH, CL, half, ine)) (hodd : ((Go.bits .and .u64 CL 1) == 1) = odd) (ha : reals_exact_away.f neg H L e more how odd half ine = some a) :
    reals_exact_round.f k neg H L e more p how = if a = true then ((reals_wide_plus.f CH CL 0 1).bind fun bt140 => (reals_exact_round.j0 k p how d neg H L e more bt140.1 bt140.2)) else (reals_exact_round.j0 k p how d neg H L e more CH CL) := by
  unfold reals_exact_round.f; rw [hdg]; simp only [Option.bind_some]; rw [hdrop, hcut]; simp only [Option.bind_some]; rw [hodd, ha]; simp only [Option.bind_some]
theorem round_is {s : Int} (hs : er s = 0) (how : Int) (h0 : 0 ≤ how) (h3 : how ≤ 3) (neg : Bool) {n : Nat} (hn : n < 340282366920938463463374607431768211456) (e : Int) (he : -15000 ≤ e) (he2 : e ≤ 15000) (more : Bool) :
    Ev (fun k => reals_exact_round.f k neg (hiw n) (low n) e more (pd s) how) (flat (rnd (pd s) how neg n e more)) := by
  have hp := pd_of hs
  have hd := dg_small (n := n) (by omega)
  have hdg := pdig_is hn
  have hdrop : Aside0 (mx (mx (wrap64 (((dg n : Nat) : Int) - (pd s : Int))) (wrap64 ((-400) - e))) 0 = ((dropS (pd s) n e : Nat) : Int)) := ⟨by
    rw [x64 (n := ((dg n : Nat) : Int) - (pd s : Int)) (by omega) (by omega), x64 (by omega) (by omega)]
    unfold mx dropS; split <;> split <;> omega⟩
  have hD : dropS (pd s) n e ≤ 20000 := by unfold dropS; omega
  have hcut := pcut_is hn (d := dropS (pd s) n e) (by omega) more
  have hup := up_lt (pd s) how neg n e more
  have h18 : 10 ^ pd s ≤ 10 ^ 18 := Nat.pow_le_pow_right (by decide) (by omega)
  have hg : -400 ≤ e + (dropS (pd s) n e : Int) := by unfold dropS; omega
  unfold rnd
  generalize hc : cutG n (dropS (pd s) n e) more = c at *
  have hq0 : c.1 ≤ n := by
    rw [← hc]; unfold cutG; split
    · exact Nat.le_refl _
    · exact Nat.div_le_self _ _
  have hu := hl_u (n := c.1) (by omega)
  have hodd : ((Go.bits .and .u64 (low c.1) 1) == 1) = decide (c.1 % 2 = 1) := by
    have := hu.2.out; unfold u64s at this
    rw [and_one _ this.1 this.2, Bool.eq_iff_iff, beq_iff_eq, decide_eq_true_eq]
    unfold low; omega
  have hj := round_j0 (pd s) (by omega) (by omega) how h0 h3 neg (hiw n) (low n) e more (up how neg c) hup (dropS (pd s) n e) (by omega) (by omega)
  refine Ev.congr (f := fun k => if awayS how neg (decide (c.1 % 2 = 1)) c.2.1 c.2.2 = true then ((reals_wide_plus.f (hiw c.1) (low c.1) 0 1).bind fun bt140 => (reals_exact_round.j0 k (pd s) how (dropS (pd s) n e : Nat) neg (hiw n) (low n) e more bt140.1 bt140.2)) else (reals_exact_round.j0 k (pd s) how (dropS (pd s) n e : Nat) neg (hiw n) (low n) e more (hiw c.1) (low c.1))) (fun k => ?_) ?_
  · exact round_step k neg _ _ e more _ how _ _ _ _ _ _ _ _ hdg hdrop.out hcut hodd (paway_is how h0 h3 neg _ _ e more _ _ _)
  by_cases ha : awayS how neg (decide (c.1 % 2 = 1)) c.2.1 c.2.2 = true
  · have huu : up how neg c = c.1 + 1 := by unfold up; rw [if_pos ha]
    have hpl := plus_is (n := c.1) (m := 1) (by omega)
    rw [show hiw 1 = 0 from rfl, show low 1 = 1 from rfl] at hpl
    refine Ev.congr (fun k => ?_) hj
    rw [if_pos ha, hpl, huu]; rfl
  · have huu : up how neg c = c.1 := by unfold up; rw [if_neg ha]; rfl
    refine Ev.congr (fun k => ?_) hj
    rw [if_neg ha, huu]
theorem pof_is {m e : Int} (h : -9223372036854775808 ≤ m) (h' : m ≤ 9223372036854775807) : reals_of.f m e = some (decide (m < 0), hiw m.natAbs, low m.natAbs, e, false) := by
  unfold reals_of.f; rw [mag_is h h']; rfl
/-- the answer of an operation whose numbers are right if ok -/
def opS (s how : Int) (ok : Bool) (r : Int × Int × Int) : Int × Int × Int := if er s = 0 ∧ 0 ≤ how ∧ how ≤ 3 then (if ok = true then r else (0, 0, 11)) else (0, 0, 1)
theorem okB_bd {p n : Nat} {e : Int} (h : okB p n e = true) (hp : p ≤ 18) : n < 1000000000000000000 ∧ dg n ≤ p ∧ -400 ≤ e ∧ e ≤ 418 ∧ Ok p n e := by
  unfold okB at h
  by_cases hz : n = 0
  · rw [if_pos hz, decide_eq_true_eq] at h
    subst hz; subst h
    exact ⟨by decide, by rw [dg_zero]; omega, by decide, by decide, fun _ => rfl, fun h => absurd rfl h, by rw [dg_zero]; omega, by decide, by rw [dg_zero]; omega⟩
  · rw [if_neg hz, decide_eq_true_eq] at h
    have h18 : 10 ^ p ≤ 10 ^ 18 := Nat.pow_le_pow_right (by decide) hp
    have hn := dg_le_iff.1 h.2.1
    exact ⟨by omega, h.2.1, h.2.2.1, by omega, fun h0 => absurd h0 hz, fun _ => h.1, h.2.1, h.2.2.1, h.2.2.2⟩
def I64 (m : Int) : Prop := -9223372036854775808 ≤ m ∧ m ≤ 9223372036854775807
/-- the reference's frame: right, then the operation -/
theorem ref_op {g : Nat → Int → Option (Int × Int × Int)} (s how m e n f : Int) (hm : I64 m) (hn : I64 n) (r : Int × Int × Int)
    (h : er s = 0 → 0 ≤ how → how ≤ 3 → okB (pd s) m.natAbs e = true → okB (pd s) n.natAbs f = true → Ev (fun k => g k 0) r) (h1 : ∀ k t, t ≠ 0 → g k t = some (0, 0, t)) :
    Ev (fun k => (environref02_right.f k s how m e n f).bind (g k)) (opS s how (okB (pd s) m.natAbs e && okB (pd s) n.natAbs f) r) := by
  refine Ev.bind (right_is s how m e n f hm.1 hm.2 hn.1 hn.2) ?_
  unfold rightS opS
  by_cases hc : er s = 0 ∧ 0 ≤ how ∧ how ≤ 3
  · rw [if_pos hc, if_pos hc]
    by_cases ho : (okB (pd s) m.natAbs e && okB (pd s) n.natAbs f) = true
    · rw [if_pos ho, if_pos ho]
      rw [Bool.and_eq_true] at ho
      exact h hc.1 hc.2.1 hc.2.2 ho.1 ho.2
    · rw [if_neg ho, if_neg ho]; exact Ev.congr (fun k => h1 k 11 (by decide)) (Ev.now _)
  · rw [if_neg hc, if_neg hc]; exact Ev.congr (fun k => h1 k 1 (by decide)) (Ev.now _)
/-- the program's frame: check, then the operation -/
theorem prog_op {g : Nat → Int × Int → Option (Int × Int × Int)} (s how : Int) (l : List S29) (hl : ∀ x ∈ l, -9223372036854775808 ≤ x.f0 ∧ x.f0 ≤ 9223372036854775807) (hn : l.length ≤ 1000) (ok : Bool) (hok : (l.all fun x => okB (pd s) x.f0.natAbs x.f1) = ok) (r : Int × Int × Int)
    (h : er s = 0 → 0 ≤ how → how ≤ 3 → ok = true → Ev (fun k => g k ((pd s : Int), 0)) r) (h1 : ∀ k t, t ≠ 0 → g k (0, t) = some (0, 0, t)) :
    Ev (fun k => (reals_check.f k s how l).bind (g k)) (opS s how ok r) := by
  refine Ev.bind (check_is s how l hl hn) ?_
  rw [hok]
  unfold checkS opS
  by_cases hc : er s = 0 ∧ 0 ≤ how ∧ how ≤ 3
  · rw [if_pos hc, if_pos hc]
    by_cases ho : ok = true
    · rw [if_pos ho, if_pos ho]; exact h hc.1 hc.2.1 hc.2.2 ho
    · rw [if_neg ho, if_neg ho]; exact Ev.congr (fun k => h1 k 11 (by decide)) (Ev.now _)
  · rw [if_neg hc, if_neg hc]; exact Ev.congr (fun k => h1 k 1 (by decide)) (Ev.now _)
theorem ok_zero (s m e : Int) : (okB (pd s) m.natAbs e && okB (pd s) (Int.natAbs 0) 0) = okB (pd s) m.natAbs e := by rw [show okB (pd s) (Int.natAbs 0) 0 = true from rfl, Bool.and_true]
def sg (m : Int) : Int := if m < 0 then -1 else if m > 0 then 1 else 0
def c3 (a b : Nat) : Int := if a = b then 0 else if a < b then -1 else 1
/-- the magnitudes compared; the first exponent is not the less one -/
def cmpA (m e n f : Int) : Int := if e - f > 19 then 1 else c3 (m.natAbs * 10 ^ (e - f).toNat) n.natAbs
def cmpS (m e n f : Int) : Int := if sg m < sg n then -1 else if sg m > sg n then 1 else if m = 0 then 0 else if e < f then sg m * -1 * cmpA n f m e else sg m * 1 * cmpA m e n f
/-- the value of a number, in units of 10 to the power of -400 -/
def W (m e : Int) : Int := m * 10 ^ (e + 400).toNat
theorem sg3 (m : Int) : sg m = -1 ∧ m < 0 ∨ sg m = 0 ∧ m = 0 ∨ sg m = 1 ∧ 0 < m := by
  unfold sg
  split
  · left; omega
  · split <;> omega
def lengS (s m e : Int) : Int × Int × Int := if s = 1 then (0, 0, 1) else opS s 0 (okB (pd s) m.natAbs e) (m, e, 0)
def shortenS (s how m e : Int) : Int × Int × Int := if s = -1 then (0, 0, 1) else opS s how (okB (pd s) m.natAbs e) (flat (rnd (pd (s - 1)) how (decide (m < 0)) m.natAbs e false))
theorem Ok.more {p q n : Nat} {e : Int} (h : Ok p n e) (hpq : p ≤ q) : Ok q n e := ⟨h.z, h.t, by have := h.d; omega, h.l, by have := h.h; omega⟩
theorem one_bd1 {m e : Int} (hm : I64 m) : ∀ x ∈ [(⟨m, e⟩ : S29)], -9223372036854775808 ≤ x.f0 ∧ x.f0 ≤ 9223372036854775807 := by
  intro x hx; simp only [List.mem_cons, List.not_mem_nil, or_false] at hx; subst hx; exact hm
theorem pleng_is (s m e : Int) (hm : I64 m) : Ev (fun k => reals_Leng.f k s m e) (lengS s m e) := by
  unfold reals_Leng.f lengS
  by_cases h1 : s = 1
  · simp only [if_pos h1]; exact Ev.now _
  · simp only [if_neg h1]
    refine prog_op s 0 _ (one_bd1 hm) (by simp) _ (by simp) _ ?_ ?_
    · intro hs _ _ _; simp only [if_true]; exact Ev.now _
    · intro k t ht; rw [if_neg ht]
theorem shorten_in (k : Nat) (m e p p2 q how s2 E : Int) (x1 : Bool) (x2 x3 : Int) (hd : reals_Digits.f s2 = some (q, E)) (hof : reals_of.f m e = some (x1, x2, x3, e, false)) :
    (if (((p, 0) : Int × Int)).2 = 0 then ((reals_Digits.f s2).bind fun bt741 => ((reals_of.f m e).bind fun bt743 => ((reals_exact_round.f k bt743.1 bt743.2.1 bt743.2.2.1 bt743.2.2.2.1 bt743.2.2.2.2 bt741.1 how).bind fun bt748 => (some (bt748.1, bt748.2.1, bt748.2.2))))) else (some (0, 0, (((p, 0) : Int × Int)).2))) = (reals_exact_round.f k x1 x2 x3 e false q how).bind fun bt748 => (some (bt748.1, bt748.2.1, bt748.2.2)) := by
  rw [if_pos rfl, hd]; simp only [Option.bind_some]; rw [hof]; simp only [Option.bind_some]
theorem pshorten_is (s how m e : Int) (hm : I64 m) : Ev (fun k => reals_Shorten.f k s how m e) (shortenS s how m e) := by
  unfold reals_Shorten.f shortenS
  by_cases h1 : s = -1
  · simp only [if_pos h1]; exact Ev.now _
  · simp only [if_neg h1]
    refine prog_op s how _ (one_bd1 hm) (by simp) _ (by simp) _ ?_ ?_
    · intro hs h0 h3 ho
      have hp := pd_of hs
      have b1 := okB_bd ho (by omega)
      have hs2 : s = 0 ∨ s = 1 := by unfold er at hs; split at hs <;> (try split at hs) <;> (try split at hs) <;> omega
      have hs3 : er (s - 1) = 0 ∧ wrap64 (s - 1) = s - 1 := ⟨by rcases hs2 with rfl | rfl <;> rfl, x64 (by omega) (by omega)⟩
      have hr := round_is hs3.1 how h0 h3 (decide (m < 0)) (n := m.natAbs) (by omega) e (by omega) (by omega) false
      refine Ev.congr (fun k => ?_) (Ev.bind hr (Ev.now (flat _)))
      rw [hs3.2]
      exact shorten_in k m e (pd s) 0 (pd (s - 1)) how (s - 1) (er (s - 1)) _ _ _ (pdigits_is (s - 1)) (pof_is hm.1 hm.2)
    · intro k t ht; rw [if_neg ht]
/-- the call of function f with these values returns v, and nothing that was there has changed -/
def Ret (f : Nat) (args : Array Value) (v : Value) : Prop := ∀ w, Calls Try.prog f args w fun e w' => e = .returned v ∧ Below w.heap.size w w'
theorem ret_b {f : Nat} {args : Array Value} {v : Value} (h : ∀ w, Calls Try.prog f args w fun e w' => e = .returned v ∧ Below w.heap.size w w') : Ret f args v := h
theorem at_w {f : Nat} {args : Array Value} {v : Value} (h : Aside0 (Ret f args v)) (w : World) : Calls Try.prog f args w fun e w' => e = .returned v ∧ Below w.heap.size w w' := h.out w
def OneP (M E er : Int) (w : World) (en : Ending) (w' : World) : Prop := ∃ p q : Nat, en = .returned (.func (Fn.func 49) #[] #[.pointer (some ⟨p, 0, none⟩), .pointer (some ⟨q, 0, none⟩)]) ∧ w'.heap[p]? = some (.cells #[.int .i64 M, .int .i64 E] 29 (0, 0)) ∧ w'.heap[q]? = some (.cells #[.int .i64 er] 25 (0, 0)) ∧ Below w.heap.size w w'
set_option maxHeartbeats 1000000 in
theorem one_calls (M E er : Int) (w : World) : Calls Try.prog 16 #[.agg #[.int .i64 M, .int .i64 E], .int .i64 er] w (OneP M E er w) := by
  have hu := Try.underlying29
  have B1 := Aside0.mk (blk_alloc (blk_new w (.cells #[.int .i64 M, .int .i64 E] 29 (0, 0))) (.cells #[.int .i64 er] 25 (0, 0)))
  have B2 := Aside0.mk (blk_new (w.alloc (.cells #[.int .i64 M, .int .i64 E] 29 (0, 0))) (.cells #[.int .i64 er] 25 (0, 0)))
  have B3 := Aside0.mk (below_alloc (below_alloc (Below.refl w.heap.size w) (.cells #[.int .i64 M, .int .i64 E] 29 (0, 0))) (.cells #[.int .i64 er] 25 (0, 0)))
  go_enter Try.func16, Try.ntmps16
  go_wp2
  go_ret
  exact ⟨w.heap.size, w.heap.size + 1, rfl, B1.out, by have := B2.out; simpa using this, B3.out⟩
set_option maxHeartbeats 1000000 in
theorem one1_yes (p q : Nat) (M E er : Int) (w : World) (hp : w.heap[p]? = some (.cells #[.int .i64 M, .int .i64 E] 29 (0, 0))) (hq : w.heap[q]? = some (.cells #[.int .i64 er] 25 (0, 0))) : Calls Try.prog 49 #[.agg #[.int .i64 M, .int .i64 E], .int .i64 er, .pointer (some ⟨p, 0, none⟩), .pointer (some ⟨q, 0, none⟩)] w fun en w' => en = .returned (.bool true) ∧ Below w.heap.size w w' := by
  have hu := Try.underlying29
  have c0 : w.cell? ⟨p, 0, none⟩ = some (.int .i64 M) := (blk_cell hp 0).trans rfl
  have c1 : w.cell? ⟨p, 1, none⟩ = some (.int .i64 E) := (blk_cell hp 1).trans rfl
  have c2 : w.cell? ⟨q, 0, none⟩ = some (.int .i64 er) := (blk_cell hq 0).trans rfl
  have lp := blk_lt hp
  have lq := blk_lt hq
  have B := Aside0.mk (Below.refl w.heap.size w)
  clear hp hq
  go_enter Try.func49, Try.ntmps49
  go_wp2
  go_ret
  exact ⟨rfl, below_alloc B.out _⟩
set_option maxHeartbeats 4000000 in
set_option maxRecDepth 100000 in
theorem awake_walk (h17 : Ret 17 #[.int .i64 0, .int .i64 0, .int .i64 1000, .int .i64 (-3)] (.tuple #[.agg #[.int .i64 1, .int .i64 0], .int .i64 0]))
    (h27 : Ret 27 #[.int .i64 (-1), .int .i64 1, .agg #[.int .i64 1, .int .i64 0], .agg #[.int .i64 3, .int .i64 0]] (.tuple #[.agg #[.int .i64 3333334, .int .i64 (-7)], .int .i64 0]))
    (h21 : Ret 21 #[.int .i64 (-1), .int .i64 0, .agg #[.int .i64 9999999, .int .i64 0], .agg #[.int .i64 5, .int .i64 (-1)]] (.tuple #[.agg #[.int .i64 1, .int .i64 7], .int .i64 0]))
    (h29 : Ret 29 #[.int .i64 0, .int .i64 0, .agg #[.int .i64 2, .int .i64 0]] (.tuple #[.agg #[.int .i64 14142135623731, .int .i64 (-13)], .int .i64 0])) : Ret 11 #[] (.bool true) := by
  intro w
  have hu := Try.underlying29
  have H17 := Aside0.mk h17; have H27 := Aside0.mk h27; have H21 := Aside0.mk h21; have H29 := Aside0.mk h29
  clear h17 h27 h21 h29
  go_enter Try.func11, Try.ntmps11
  go_wp2_with fail
  refine (at_w H17 _).mono ?_
  rintro e1 w1 ⟨rfl, hb⟩
  have X1 := Aside0.mk (blk_new w1 (.cells #[.int .i64 1, .int .i64 0] 29 (0, 0)))
  have HB1 := Aside0.mk (below_alloc hb (.cells #[.int .i64 1, .int .i64 0] 29 (0, 0)))
  clear hb
  go_wp2_with fail
  refine (at_w H27 _).mono ?_
  rintro e1 w2 ⟨rfl, hb⟩
  have X2 := Aside0.mk (blk_alloc (blk_below X1.out hb) (.cells #[.int .i64 3333334, .int .i64 (-7)] 29 (0, 0)))
  have Y2 := Aside0.mk (blk_new w2 (.cells #[.int .i64 3333334, .int .i64 (-7)] 29 (0, 0)))
  have HB2 := Aside0.mk (below_alloc (below_step HB1.out hb) (.cells #[.int .i64 3333334, .int .i64 (-7)] 29 (0, 0)))
  clear hb X1 HB1
  go_wp2_with fail
  refine (at_w H21 _).mono ?_
  rintro e1 w3 ⟨rfl, hb⟩
  have X3 := Aside0.mk (blk_alloc (blk_below X2.out hb) (.cells #[.int .i64 1, .int .i64 7] 29 (0, 0)))
  have Y3 := Aside0.mk (blk_alloc (blk_below Y2.out hb) (.cells #[.int .i64 1, .int .i64 7] 29 (0, 0)))
  have Z3 := Aside0.mk (blk_new w3 (.cells #[.int .i64 1, .int .i64 7] 29 (0, 0)))
  have HB3 := Aside0.mk (below_alloc (below_step HB2.out hb) (.cells #[.int .i64 1, .int .i64 7] 29 (0, 0)))
  clear hb X2 Y2 HB2
  go_wp2_with fail
  refine (at_w H29 _).mono ?_
  rintro e1 w4 ⟨rfl, hb⟩
  have X4 := blk_alloc (blk_below X3.out hb) (.cells #[.int .i64 14142135623731, .int .i64 (-13)] 29 (0, 0))
  have Y4 := blk_alloc (blk_below Y3.out hb) (.cells #[.int .i64 14142135623731, .int .i64 (-13)] 29 (0, 0))
  have Z4 := blk_alloc (blk_below Z3.out hb) (.cells #[.int .i64 14142135623731, .int .i64 (-13)] 29 (0, 0))
  have U4 := blk_new w4 (.cells #[.int .i64 14142135623731, .int .i64 (-13)] 29 (0, 0))
  have HB4 := Aside0.mk (below_alloc (below_step HB3.out hb) (.cells #[.int .i64 14142135623731, .int .i64 (-13)] 29 (0, 0)))
  clear hb X3 Y3 Z3 HB3
  have x0 := (blk_cell X4 0).trans rfl; have x1 := (blk_cell X4 1).trans rfl
  have y0 := (blk_cell Y4 0).trans rfl; have y1 := (blk_cell Y4 1).trans rfl
  have z0 := (blk_cell Z4 0).trans rfl; have z1 := (blk_cell Z4 1).trans rfl
  have u0 := (blk_cell U4 0).trans rfl; have u1 := (blk_cell U4 1).trans rfl
  clear X4 Y4 Z4 U4
  go_wp2
  go_ret
  exact ⟨rfl, HB4.out⟩
theorem wf64 {x : Int} (h : (Lit.int .i64 x).wf = true) : I64 x := by
  unfold I64
  simp [Lit.wf, IntKind.min, IntKind.max, IntKind.signed, IntKind.bits] at h; omega
theorem leng_ret {s m e D F c : Int} (hm : I64 m) (h : lengS s m e = (D, F, c)) : Ret 36 #[.int .i64 s, .agg #[.int .i64 m, .int .i64 e]] (.tuple #[.agg #[.int .i64 D, .int .i64 F], .int .i64 c]) := by
  obtain ⟨k, hk⟩ := (pleng_is s m e hm).rounds
  rw [h] at hk
  exact ret_b fun w => reals_Leng.calls k s m e D F c w hk
theorem shorten_ret {s how m e D F c : Int} (hm : I64 m) (h : shortenS s how m e = (D, F, c)) : Ret 37 #[.int .i64 s, .int .i64 how, .agg #[.int .i64 m, .int .i64 e]] (.tuple #[.agg #[.int .i64 D, .int .i64 F], .int .i64 c]) := by
  obtain ⟨k, hk⟩ := (pshorten_is s how m e hm).rounds
  rw [h] at hk
  exact ret_b fun w => reals_Shorten.calls k s how m e D F c w hk
theorem awake_ret : Ret 11 #[] (.bool true) :=
  awake_walk (ret_b fun w => reals_Make.calls 200 0 0 1000 (-3) 1 0 0 w (by decide +kernel)) (ret_b fun w => reals_Div.calls 200 (-1) 1 1 0 3 0 3333334 (-7) 0 w (by decide +kernel))
    (ret_b fun w => reals_Add.calls 200 (-1) 0 9999999 0 5 (-1) 1 7 0 w (by decide +kernel)) (ret_b fun w => reals_Sqrt.calls 200 0 0 2 0 14142135623731 (-13) 0 w (by decide +kernel))
theorem sign_calls (a : Int) (w : World) : Calls Try.prog 67 #[.int .i64 a] w fun e w' => e = .returned (.int .i64 (sg a)) ∧ w' = w := by
  unfold sg
  by_cases h1 : a < 0
  · rw [if_pos h1]
    go_enter Try.func67, Try.ntmps67
    go_wp2
    go_ret
    exact ⟨rfl, rfl⟩
  · rw [if_neg h1]
    have h1' : decide (a < 0) = false := decide_eq_false h1
    by_cases h2 : a > 0
    · rw [if_pos h2]
      go_enter Try.func67, Try.ntmps67
      go_wp2
      go_ret
      exact ⟨rfl, rfl⟩
    · rw [if_neg h2]
      have h2' : decide (0 < a) = false := decide_eq_false h2
      go_enter Try.func67, Try.ntmps67
      go_wp2
      go_ret
      exact ⟨rfl, rfl⟩
theorem sign_is {a S : Int} (h : sg a = S) (w : World) : Calls Try.prog 67 #[.int .i64 a] w fun e w' => e = .returned (.int .i64 S) ∧ w' = w := h ▸ sign_calls a w
theorem blk_new1 (w : World) (o o' : Obj) : ((w.alloc o).alloc o').heap[w.heap.size + 1]? = some o' := by simpa using blk_new (w.alloc o) o'
/-- the boxes of Compare: its two numbers -/
structure CmpX (w w' : World) (X Y : Array Value) : Prop where
  x : w'.heap[w.heap.size]? = some (.cells X 29 (0, 0))
  y : w'.heap[w.heap.size + 1]? = some (.cells Y 29 (0, 0))
  s : Below w.heap.size w w'
theorem CmpX.next {w w' w2 : World} {X Y : Array Value} (h : CmpX w w' X Y) (hb : Below w'.heap.size w' w2) : CmpX w w2 X Y := ⟨blk_below h.x hb, blk_below h.y hb, below_step h.s hb⟩
theorem CmpX.drew {w w' : World} {X Y : Array Value} (h : CmpX w w' X Y) : CmpX w w'.drew X Y := ⟨h.x, h.y, below_drew1 h.s⟩
theorem CmpX.drewN {w w' : World} {X Y : Array Value} (h : CmpX w w' X Y) (n : Nat) : CmpX w (w'.drewN n) X Y := ⟨h.x, h.y, pw_below_drewN h.s n⟩
theorem CmpX.alloc {w w' : World} {X Y : Array Value} (h : CmpX w w' X Y) (o : Obj) : CmpX w (w'.alloc o) X Y := ⟨blk_alloc h.x _, blk_alloc h.y _, below_alloc h.s _⟩
theorem CmpX.far {w w' : World} {X Y : Array Value} {g : Nat} (h : CmpX w w' X Y) (hl : w.heap.size + 1 < g) (i : Nat) (v : Value) : CmpX w (w'.setCell ⟨g, i, none⟩ v) X Y :=
  ⟨blk_far h.x (by simp; omega) _, blk_far h.y (by simp; omega) _, below_set h.s (by omega)⟩
theorem cmp_s {w w' : World} {m e n f : Int} (h : CmpX w w' #[.int .i64 m, .int .i64 e] #[.int .i64 n, .int .i64 f]) : (w'.cell? ⟨w.heap.size, 0, none⟩ = some (.int .i64 m) ∧ w'.cell? ⟨w.heap.size, 1, none⟩ = some (.int .i64 e) ∧ w'.cell? ⟨w.heap.size + 1, 0, none⟩ = some (.int .i64 n) ∧ w'.cell? ⟨w.heap.size + 1, 1, none⟩ = some (.int .i64 f)) ∧ Aside0 (CmpX w w' #[.int .i64 m, .int .i64 e] #[.int .i64 n, .int .i64 f]) :=
  ⟨⟨(blk_cell h.x 0).trans rfl, (blk_cell h.x 1).trans rfl, (blk_cell h.y 0).trans rfl, (blk_cell h.y 1).trans rfl⟩, ⟨h⟩⟩
theorem cmp_new (w : World) (X Y : Array Value) : CmpX w ((w.alloc (.cells X 29)).alloc (.cells Y 29)) X Y :=
  ⟨blk_alloc (blk_new w _) _, by have h := blk_new (w.alloc (.cells X 29)) (.cells Y 29); simpa using h, below_alloc (below_alloc (Below.refl _ _) _) _⟩
/-- beside them those of the magnitudes -/
structure CmpW (w w' : World) (X Y A B : Array Value) (ga gb : Nat) : Prop where
  c : CmpX w w' X Y
  a : w'.heap[ga]? = some (.cells A 55 (0, 0))
  b : w'.heap[gb]? = some (.cells B 55 (0, 0))
  n : ga ≠ gb
  n0 : w.heap.size + 1 < ga
  n1 : w.heap.size + 1 < gb
def CmpP (w w' : World) (X Y A B : Array Value) (s7 s8 : Value) : Prop := ∃ ga gb, s7 = .pointer (some ⟨ga, 0, none⟩) ∧ s8 = .pointer (some ⟨gb, 0, none⟩) ∧ CmpW w w' X Y A B ga gb
theorem cmp_cells {w w' : World} {ga gb : Nat} {m e n f u v : Int} (h : CmpW w w' #[.int .i64 m, .int .i64 e] #[.int .i64 n, .int .i64 f] #[.int .u64 0, .int .u64 u] #[.int .u64 0, .int .u64 v] ga gb) : w'.cell? ⟨w.heap.size, 0, none⟩ = some (.int .i64 m) ∧ w'.cell? ⟨w.heap.size, 1, none⟩ = some (.int .i64 e) ∧ w'.cell? ⟨w.heap.size + 1, 0, none⟩ = some (.int .i64 n) ∧ w'.cell? ⟨w.heap.size + 1, 1, none⟩ = some (.int .i64 f) ∧
    w'.frozen? ⟨w.heap.size, 0, none⟩ = false ∧ w'.frozen? ⟨w.heap.size, 1, none⟩ = false ∧ w'.frozen? ⟨w.heap.size + 1, 0, none⟩ = false ∧ w'.frozen? ⟨w.heap.size + 1, 1, none⟩ = false ∧ w'.cell? ⟨ga, 0, none⟩ = some (.int .u64 0) ∧ w'.cell? ⟨ga, 1, none⟩ = some (.int .u64 u) ∧ w'.cell? ⟨gb, 0, none⟩ = some (.int .u64 0) ∧ w'.cell? ⟨gb, 1, none⟩ = some (.int .u64 v) ∧ w'.frozen? ⟨ga, 0, none⟩ = false ∧ w'.frozen? ⟨ga, 1, none⟩ = false ∧ w'.frozen? ⟨gb, 0, none⟩ = false ∧ w'.frozen? ⟨gb, 1, none⟩ = false :=
  ⟨(blk_cell h.c.x 0).trans rfl, (blk_cell h.c.x 1).trans rfl, (blk_cell h.c.y 0).trans rfl, (blk_cell h.c.y 1).trans rfl, blk_frozen h.c.x 0, blk_frozen h.c.x 1, blk_frozen h.c.y 0, blk_frozen h.c.y 1, (blk_cell h.a 0).trans rfl, (blk_cell h.a 1).trans rfl, (blk_cell h.b 0).trans rfl, (blk_cell h.b 1).trans rfl, blk_frozen h.a 0, blk_frozen h.a 1, blk_frozen h.b 0, blk_frozen h.b 1⟩
theorem CmpW.next {w w' w2 : World} {X Y A B : Array Value} {ga gb : Nat} (h : CmpW w w' X Y A B ga gb) (hb : Below w'.heap.size w' w2) : CmpW w w2 X Y A B ga gb := ⟨h.c.next hb, blk_below h.a hb, blk_below h.b hb, h.n, h.n0, h.n1⟩
theorem CmpW.drew {w w' : World} {X Y A B : Array Value} {ga gb : Nat} (h : CmpW w w' X Y A B ga gb) : CmpW w w'.drew X Y A B ga gb := ⟨h.c.drew, h.a, h.b, h.n, h.n0, h.n1⟩
theorem cmp_t {w w' : World} {ga gb : Nat} {m e n f u v : Int} (h : CmpW w w' #[.int .i64 m, .int .i64 e] #[.int .i64 n, .int .i64 f] #[.int .u64 0, .int .u64 u] #[.int .u64 0, .int .u64 v] ga gb) : (w'.cell? ⟨ga, 0, none⟩ = some (.int .u64 0) ∧ w'.cell? ⟨ga, 1, none⟩ = some (.int .u64 u) ∧ w'.cell? ⟨gb, 0, none⟩ = some (.int .u64 0) ∧ w'.cell? ⟨gb, 1, none⟩ = some (.int .u64 v) ∧ w'.cell? ⟨w.heap.size, 1, none⟩ = some (.int .i64 e) ∧ w'.cell? ⟨w.heap.size + 1, 1, none⟩ = some (.int .i64 f)) ∧ Aside0 (CmpW w w' #[.int .i64 m, .int .i64 e] #[.int .i64 n, .int .i64 f] #[.int .u64 0, .int .u64 u] #[.int .u64 0, .int .u64 v] ga gb) := by
  obtain ⟨x0, x1, y0, y1, _, _, _, _, a0, a1, b0, b1, _⟩ := cmp_cells h
  exact ⟨⟨a0, a1, b0, b1, x1, y1⟩, ⟨h⟩⟩
theorem cmp_e1 {w w2 : World} {X Y A B : Array Value} (h : CmpX w w2 X Y) : CmpP w ((w2.alloc (.cells A 55)).alloc (.cells B 55)) X Y A B (.pointer (some ⟨w2.heap.size, 0, none⟩)) (.pointer (some ⟨w2.heap.size + 1, 0, none⟩)) := by
  have := blk_lt h.y
  exact ⟨_, _, rfl, rfl, (h.alloc _).alloc _, blk_alloc (blk_new _ _) _, blk_new1 _ _ _, by omega, by omega, by omega⟩
theorem cmp_f1 {w w2 : World} {X Y A B : Array Value} (h : CmpX w w2 X Y) : CmpP w ((w2.alloc (.cells B 55)).alloc (.cells A 55)) X Y A B (.pointer (some ⟨w2.heap.size + 1, 0, none⟩)) (.pointer (some ⟨w2.heap.size, 0, none⟩)) := by
  have := blk_lt h.y
  exact ⟨_, _, rfl, rfl, (h.alloc _).alloc _, blk_new1 _ _ _, blk_alloc (blk_new _ _) _, by omega, by omega, by omega⟩
theorem put2 {w : World} {g : Nat} {a b a' b' : Value} {t : TypeId} (h : w.heap[g]? = some (.cells #[a, b] t (0, 0))) : ((w.setCell ⟨g, 0, none⟩ a').setCell ⟨g, 1, none⟩ b').heap[g]? = some (.cells #[a', b'] t (0, 0)) := blk_put (blk_put h 0 _ rfl) 1 _ rfl
theorem far2 {w : World} {g g' : Nat} {cs : Array Value} {a b : Value} {t : TypeId} (h : w.heap[g]? = some (.cells cs t (0, 0))) (hn : g ≠ g') : ((w.setCell ⟨g', 0, none⟩ a).setCell ⟨g', 1, none⟩ b).heap[g]? = some (.cells cs t (0, 0)) := blk_far (blk_far h hn _) hn _
theorem size2 (w : World) (g : Nat) (a b : Value) : ((w.setCell ⟨g, 0, none⟩ a).setCell ⟨g, 1, none⟩ b).heap.size = w.heap.size := by simp
theorem cmp_swap {w w' : World} {ga gb : Nat} {x0 x1 y0 y1 a0 a1 b0 b1 : Value} {X0 X1 Y0 Y1 A0 A1 B0 B1 : Value} (h : CmpW w w' #[x0, x1] #[y0, y1] #[a0, a1] #[b0, b1] ga gb) : CmpW w ((((((((w'.setCell ⟨w.heap.size, 0, none⟩ X0).setCell ⟨w.heap.size, 1, none⟩ X1).setCell ⟨w.heap.size + 1, 0, none⟩ Y0).setCell ⟨w.heap.size + 1, 1, none⟩ Y1).setCell ⟨ga, 0, none⟩ A0).setCell ⟨ga, 1, none⟩ A1).setCell ⟨gb, 0, none⟩ B0).setCell ⟨gb, 1, none⟩ B1).drew #[X0, X1] #[Y0, Y1] #[A0, A1] #[B0, B1] ga gb := by
  have n0 := h.n0; have n1 := h.n1
  refine ⟨⟨?_, ?_, ?_⟩, ?_, ?_, h.n, h.n0, h.n1⟩
  · exact blk_drew (far2 (far2 (far2 (put2 h.c.x) (by omega)) (by omega)) (by omega))
  · exact blk_drew (far2 (far2 (put2 (far2 h.c.y (by omega))) (by omega)) (by omega))
  · exact below_drew1 (below_set (below_set (below_set (below_set (below_set (below_set (below_set (below_set h.c.s (by omega)) (by omega)) (by omega)) (by omega)) (by omega)) (by omega)) (by omega)) (by omega))
  · exact blk_drew (far2 (put2 (far2 (far2 h.a (by omega)) (by omega))) h.n)
  · exact blk_drew (put2 (far2 (far2 (far2 h.b (by omega)) (by omega)) (Ne.symm h.n)))
theorem cmp_e2 {w w2 : World} {X Y : Array Value} {g : Nat} {a' b' c d : Value} (h : CmpX w w2 X Y) (hg : w2.heap[g]? = some (.cells #[.int .u64 0, .int .u64 0] 55 (0, 0))) (hl : w.heap.size + 1 < g) : CmpP w (((w2.setCell ⟨g, 0, none⟩ a').setCell ⟨g, 1, none⟩ b').alloc (.cells #[c, d] 55)) X Y #[a', b'] #[c, d] (.pointer (some ⟨g, 0, none⟩)) (.pointer (some ⟨w2.heap.size, 0, none⟩)) := by
  have := blk_lt h.y; have := blk_lt hg
  have hn := blk_new ((w2.setCell ⟨g, 0, none⟩ a').setCell ⟨g, 1, none⟩ b') (.cells #[c, d] 55)
  rw [size2] at hn
  exact ⟨_, _, rfl, rfl, ((h.far hl _ _).far hl _ _).alloc _, blk_alloc (put2 hg) _, hn, by omega, by omega, by omega⟩
theorem cmp_f2 {w w2 : World} {X Y : Array Value} {g : Nat} {a' b' c d : Value} (h : CmpX w w2 X Y) (hg : w2.heap[g]? = some (.cells #[.int .u64 0, .int .u64 0] 55 (0, 0))) (hl : w.heap.size + 1 < g) : CmpP w (((w2.setCell ⟨g, 0, none⟩ a').setCell ⟨g, 1, none⟩ b').alloc (.cells #[c, d] 55)) X Y #[c, d] #[a', b'] (.pointer (some ⟨w2.heap.size, 0, none⟩)) (.pointer (some ⟨g, 0, none⟩)) := by
  have := blk_lt h.y; have := blk_lt hg
  have hn := blk_new ((w2.setCell ⟨g, 0, none⟩ a').setCell ⟨g, 1, none⟩ b') (.cells #[c, d] 55)
  rw [size2] at hn
  exact ⟨_, _, rfl, rfl, ((h.far hl _ _).far hl _ _).alloc _, hn, blk_alloc (put2 hg) _, by omega, by omega, by omega⟩
theorem cmp_e3 {w w2 : World} {X Y : Array Value} {g k : Nat} {a' b' c' d' : Value} (h : CmpX w w2 X Y) (hg : w2.heap[g]? = some (.cells #[.int .u64 0, .int .u64 0] 55 (0, 0))) (hk : w2.heap[k]? = some (.cells #[.int .u64 0, .int .u64 0] 55 (0, 0))) (hl : w.heap.size + 1 < g) (hl2 : w.heap.size + 1 < k) (hn : g ≠ k) : CmpP w ((((w2.setCell ⟨g, 0, none⟩ a').setCell ⟨g, 1, none⟩ b').setCell ⟨k, 0, none⟩ c').setCell ⟨k, 1, none⟩ d') X Y #[a', b'] #[c', d'] (.pointer (some ⟨g, 0, none⟩)) (.pointer (some ⟨k, 0, none⟩)) :=
  ⟨_, _, rfl, rfl, (((h.far hl _ _).far hl _ _).far hl2 _ _).far hl2 _ _, far2 (put2 hg) hn, put2 (far2 hk (Ne.symm hn)), hn, hl, hl2⟩
set_option maxHeartbeats 8000000 in
set_option maxRecDepth 100000 in
theorem compare_main (m e n f S : Int) (w : World) (hm1 : ∀ w, Calls Try.prog 67 #[.int .i64 m] w fun e w' => e = .returned (.int .i64 S) ∧ w' = w) (hn1 : ∀ w, Calls Try.prog 67 #[.int .i64 n] w fun e w' => e = .returned (.int .i64 S) ∧ w' = w) (hz : S = 1 ∨ S = -1) (he : I64 e) (hf : I64 f) (u v : Int) (hmu : Ret 46 #[.int .i64 m] (.agg #[.int .u64 0, .int .u64 u])) (hnv : Ret 46 #[.int .i64 n] (.agg #[.int .u64 0, .int .u64 v])) (r : Int)
    (m' e' n' f' u' v' t c C0 C1 P : Int) (k : Nat) (hP : P = 1 ∨ P = -1) (hP2 : IntKind.i64.wrap (S * t) = P) (hy : e < f → m' = n ∧ e' = f ∧ n' = m ∧ f' = e ∧ u' = v ∧ v' = u ∧ t = -1) (hno : ¬ e < f → m' = m ∧ e' = e ∧ n' = n ∧ f' = f ∧ u' = u ∧ v' = v ∧ t = 1)
    (hfar : 19 < e' - f' → r = P) (hnear : ¬ 19 < e' - f' → reals_wide_scaled.f k 0 u' (e' - f') = some (C0, C1) ∧ reals_wide_compare.f C0 C1 0 v' = some c ∧ (c = -1 ∨ c = 0 ∨ c = 1) ∧ r = P * c) :
    Calls Try.prog 35 #[.agg #[.int .i64 m, .int .i64 e], .agg #[.int .i64 n, .int .i64 f]] w fun en w' => en = .returned (.int .i64 r) ∧ Below w.heap.size w w' := by
  have hu := Try.underlying29
  have hu2 := Try.underlying55
  have t2 : (S == 0) = false := by rw [beq_eq_false_iff_ne]; omega
  have t3 : -1 ≤ S ∧ S ≤ 1 := by omega
  have HZ := Aside0.mk hz
  have HU := Aside0.mk hmu; have HV := Aside0.mk hnv; have HE := Aside0.mk he; have HF := Aside0.mk hf
  have HM1 := Aside0.mk hm1; have HN1 := Aside0.mk hn1
  have HPP := Aside0.mk hP; have HP2 := Aside0.mk hP2; have HY := Aside0.mk hy; have HNO := Aside0.mk hno; have HFAR := Aside0.mk hfar; have HNEAR := Aside0.mk hnear
  clear hmu hnv he hf hz hm1 hn1 hP hP2 hy hno hfar hnear
  go_enter Try.func35, Try.ntmps35
  go_wp2_with fail
  go_quiet ((first | (go_at_call 67; exact Calls.quiet_of_same (HM1.out _)) | (go_at_call 67; exact Calls.quiet_of_same (HN1.out _))))
  go_upto_region 8 with fail
  go_cut [7, 8] (fun s7 s8 wx => CmpP w wx #[.int .i64 m, .int .i64 e] #[.int .i64 n, .int .i64 f] #[.int .u64 0, .int .u64 u] #[.int .u64 0, .int .u64 v] s7 s8)
  case first =>
    have HW0 := Aside0.mk ((cmp_new w #[.int .i64 m, .int .i64 e] #[.int .i64 n, .int .i64 f]).drewN nq)
    generalize (((w.alloc (.cells #[.int .i64 m, .int .i64 e] 29)).alloc (.cells #[.int .i64 n, .int .i64 f] 29)).drewN nq) = w0 at HW0 ⊢
    have hg0 := Aside0.mk (blk_lt HW0.out.y)
    go_region_held3 (fun w' => (w'.cell? ⟨w.heap.size, 0, none⟩ = some (.int .i64 m) ∧ w'.cell? ⟨w.heap.size, 1, none⟩ = some (.int .i64 e) ∧ w'.cell? ⟨w.heap.size + 1, 0, none⟩ = some (.int .i64 n) ∧ w'.cell? ⟨w.heap.size + 1, 1, none⟩ = some (.int .i64 f)) ∧ Aside0 (CmpX w w' #[.int .i64 m, .int .i64 e] #[.int .i64 n, .int .i64 f])) (((try go_split_ands); (refine cmp_s ?_); (repeat (first | (refine Aside0.out ?_; assumption) | refine CmpX.next ?_ hb1 | refine CmpX.next ?_ hb2 | refine CmpX.drew ?_ | refine CmpX.alloc ?_ _ | refine CmpX.far ?_ (by first | exact hg0.out | exact hg1.out | exact hg2.out | exact Nat.lt_succ_of_lt hg0.out | exact Nat.lt_succ_of_lt hg1.out | exact Nat.lt_succ_of_lt hg2.out) _ _)))) (first | (go_at_call 46; (with_reducible refine (at_w HU _).mono ?_); rintro e1 w1 ⟨rfl, hb1⟩; have HW1 : Aside0 (CmpX w w1 #[.int .i64 m, .int .i64 e] #[.int .i64 n, .int .i64 f]) := ⟨by repeat (first | (refine Aside0.out ?_; assumption) | refine CmpX.next ?_ hb1 | refine CmpX.drew ?_ | refine CmpX.alloc ?_ _)⟩; have hg1 := Aside0.mk (blk_lt HW1.out.y); (try have BA := Aside0.mk (blk_below (blk_new _ _) hb1)); (try have BA := Aside0.mk (blk_below (blk_drew (blk_new _ _)) hb1)); (try have BA := Aside0.mk (blk_below (blk_new1 _ _ _) hb1)); (try have BA := Aside0.mk (blk_below (blk_drew (blk_new1 _ _ _)) hb1)); (try have BB := Aside0.mk (blk_below (blk_alloc (blk_new _ _) _) hb1)); (try have BB := Aside0.mk (blk_below (blk_drew (blk_alloc (blk_new _ _) _)) hb1)); (try have la1 := blk_lt BA.out); (try have na1 := Nat.ne_of_gt (blk_lt BA.out)); (try have lb1 := blk_lt BB.out); (try have nb1 := Nat.ne_of_gt (blk_lt BB.out))) | (go_at_call 46; (with_reducible refine (at_w HV _).mono ?_); rintro e1 w2 ⟨rfl, hb2⟩; have HW2 : Aside0 (CmpX w w2 #[.int .i64 m, .int .i64 e] #[.int .i64 n, .int .i64 f]) := ⟨by repeat (first | (refine Aside0.out ?_; assumption) | refine CmpX.next ?_ hb2 | refine CmpX.next ?_ hb1 | refine CmpX.drew ?_ | refine CmpX.alloc ?_ _)⟩; have hg2 := Aside0.mk (blk_lt HW2.out.y); (try have BC := Aside0.mk (blk_below (blk_new _ _) hb2)); (try have BC := Aside0.mk (blk_below (blk_new1 _ _ _) hb2)); (try have BD := Aside0.mk (blk_below (blk_alloc (blk_new _ _) _) hb2)); (try have BE := Aside0.mk (blk_below BA.out hb2)); (try have BE := Aside0.mk (blk_below (blk_alloc BA.out _) hb2)); (try have BF := Aside0.mk (blk_below BB.out hb2)); (try have ca0 := (blk_cell BC.out 0).trans rfl); (try have ca1 := (blk_cell BC.out 1).trans rfl); (try have fa0 := blk_frozen BC.out 0); (try have fa1 := blk_frozen BC.out 1); (try have la := blk_lt BC.out); (try have cb0 := (blk_cell BD.out 0).trans rfl); (try have cb1 := (blk_cell BD.out 1).trans rfl); (try have fb0 := blk_frozen BD.out 0); (try have fb1 := blk_frozen BD.out 1); (try have lb := blk_lt BD.out); (try have cc0 := (blk_cell BE.out 0).trans rfl); (try have cc1 := (blk_cell BE.out 1).trans rfl); (try have fc0 := blk_frozen BE.out 0); (try have fc1 := blk_frozen BE.out 1); (try have lc := blk_lt BE.out); (try have cd0 := (blk_cell BF.out 0).trans rfl); (try have cd1 := (blk_cell BF.out 1).trans rfl); (try have fd0 := blk_frozen BF.out 0); (try have fd1 := blk_frozen BF.out 1); (try have ld := blk_lt BF.out)))
    all_goals (go_wp2_with fail; go_meet)
    all_goals (have h0 := hg0.out; have h1 := hg1.out; have h2 := hg2.out; have q1 := below_size hb1; have q2 := below_size hb2; (try simp at q1); (try simp at q2))
    all_goals (first | (with_reducible exact cmp_e1 HW2.out) | (with_reducible exact cmp_f1 HW2.out) | ((with_reducible refine cmp_e2 HW2.out ?_ ?_) <;> first | omega | exact BC.out | exact BD.out | exact BE.out | exact BF.out) | ((with_reducible refine cmp_f2 HW2.out ?_ ?_) <;> first | omega | exact BC.out | exact BD.out | exact BE.out | exact BF.out) | ((with_reducible refine cmp_e3 HW2.out ?_ ?_ ?_ ?_ ?_) <;> first | omega | exact BC.out | exact BD.out | exact BE.out | exact BF.out))
  case rest =>
    obtain ⟨ga, gb, rfl, rfl, HW⟩ := hcut
    have he := HE.out; have hf := HF.out
    unfold I64 at he hf
    have n0 := HW.n; have n1 := Ne.symm HW.n; have n2 := Nat.ne_of_gt HW.n0; have n3 := Nat.ne_of_gt HW.n1
    have m0 := HW.n0; have m1 := HW.n1
    have HW0 := Aside0.mk HW
    obtain ⟨x0, x1, y0, y1, fx0, fx1, fy0, fy1, a0, a1, b0, b1, fa0, fa1, fb0, fb1⟩ := cmp_cells HW
    clear HW HE HF HU HV HM1 HN1
    go_upto_if 38 with fail
    go_cut [9] (fun s9 wx => s9 = .int .i64 t ∧ Aside0 (CmpW w wx #[.int .i64 m', .int .i64 e'] #[.int .i64 n', .int .i64 f'] #[.int .u64 0, .int .u64 u'] #[.int .u64 0, .int .u64 v'] ga gb))
    case first =>
      by_cases hef : e < f
      · obtain ⟨rfl, rfl, rfl, rfl, rfl, rfl, rfl⟩ := HY.out (by omega)
        go_wp2_with fail
        go_region
        all_goals (go_wp2_with fail; go_meet)
        all_goals exact ⟨rfl, ⟨cmp_swap HW0.out⟩⟩
      · obtain ⟨rfl, rfl, rfl, rfl, rfl, rfl, rfl⟩ := HNO.out (by omega)
        have hef' : decide (e' < f') = false := decide_eq_false hef
        go_wp2_with fail
        go_meet
        exact ⟨rfl, HW0⟩
    case rest =>
      obtain ⟨rfl, HW⟩ := hcut
      clear x0 x1 y0 y1 fx0 fx1 fy0 fy1 a0 a1 b0 b1 fa0 fa1 fb0 fb1
      obtain ⟨x0, x1, y0, y1, fx0, fx1, fy0, fy1, a0, a1, b0, b1, fa0, fa1, fb0, fb1⟩ := cmp_cells HW.out
      have hle : f' ≤ e' := by
        by_cases h : e < f
        · have := HY.out (by omega); omega
        · have := HNO.out (by omega); omega
      have hbd : -9223372036854775808 ≤ f' ∧ e' ≤ 9223372036854775807 := by
        by_cases h : e < f
        · have := HY.out (by omega); omega
        · have := HNO.out (by omega); omega
      have hw : IntKind.u64.wrap (IntKind.u64.wrap e' - IntKind.u64.wrap f') = e' - f' := by simp [IntKind.wrap, IntKind.signed, IntKind.bits]; omega
      clear HY HNO he hf
      have hP2 := HP2.out
      by_cases hd : 19 < e' - f'
      · have hr := HFAR.out hd
        subst hr
        go_wp2_with fail
        go_ret
        exact ⟨rfl, HW.out.c.s⟩
      · obtain ⟨hsc, hcp, hc, hr⟩ := HNEAR.out (by omega)
        have hPP := HPP.out
        have hr2 : IntKind.i64.wrap (P * c) = r := by rw [hr]; rcases hPP with rfl | rfl <;> rcases hc with rfl | rfl | rfl <;> rfl
        have HSC := Aside0.mk hsc; have HCP := Aside0.mk hcp; have HR := Aside0.mk hr2
        have hs : IntKind.i64.wrap (e' - f') = e' - f' := IntWalk.i64_in _ (by omega)
        have hd' : decide (19 < e' - f') = false := decide_eq_false hd
        clear hsc hcp hc hr hPP
        go_upto_region 15 with fail
        go_region_held3 (fun w' => (w'.cell? ⟨ga, 0, none⟩ = some (.int .u64 0) ∧ w'.cell? ⟨ga, 1, none⟩ = some (.int .u64 u') ∧ w'.cell? ⟨gb, 0, none⟩ = some (.int .u64 0) ∧ w'.cell? ⟨gb, 1, none⟩ = some (.int .u64 v') ∧ w'.cell? ⟨w.heap.size, 1, none⟩ = some (.int .i64 e') ∧ w'.cell? ⟨w.heap.size + 1, 1, none⟩ = some (.int .i64 f')) ∧ Aside0 (CmpW w w' #[.int .i64 m', .int .i64 e'] #[.int .i64 n', .int .i64 f'] #[.int .u64 0, .int .u64 u'] #[.int .u64 0, .int .u64 v'] ga gb)) (((try go_split_ands); (refine cmp_t ?_); (repeat (first | (refine Aside0.out ?_; assumption) | refine CmpW.next ?_ hb1 | refine CmpW.next ?_ hb2 | refine CmpW.drew ?_)))) (first | (go_at_call 60; (with_reducible refine (reals_wide_scaled.calls k 0 u' (e' - f') C0 C1 _ HSC.out).mono ?_); rintro e1 w1 ⟨rfl, hb1⟩; have HW1 := Aside0.mk ((CmpW.drew HW.out).next hb1)) | (go_at_call 68; (with_reducible refine (reals_wide_compare.calls C0 C1 0 v' c _ HCP.out).mono ?_); rintro e1 w2 ⟨rfl, hb2⟩; have HW2 := Aside0.mk (HW1.out.next hb2)))
        all_goals go_wp2
        all_goals go_ret
        all_goals exact ⟨rfl, HW2.out.c.s⟩
theorem sgn_P {S T : Int} (h : S = 1 ∨ S = -1) (h2 : T = 1 ∨ T = -1) : (S * T = 1 ∨ S * T = -1) ∧ IntKind.i64.wrap (S * T) = S * T := by
  rcases h with rfl | rfl <;> rcases h2 with rfl | rfl <;> exact ⟨by decide, rfl⟩
theorem c3_bd (a b : Nat) : c3 a b = -1 ∨ c3 a b = 0 ∨ c3 a b = 1 := by unfold c3; split <;> (try split) <;> simp
/-- what the far end of Compare asks -/
theorem cmp_near {m' n' e' f' : Int} (hm : I64 m') (hn : I64 n') (hle : f' ≤ e') (h : ¬ 19 < e' - f') : ∃ C0 C1, reals_wide_scaled.f 40 0 (m'.natAbs : Int) (e' - f') = some (C0, C1) ∧ reals_wide_compare.f C0 C1 0 (n'.natAbs : Int) = some (c3 (m'.natAbs * 10 ^ (e' - f').toNat) n'.natAbs) := by
  unfold I64 at hm hn
  have h1 := hl_small (n := m'.natAbs) (by omega)
  have h2 := hl_small (n := n'.natAbs) (by omega)
  have hp : 10 ^ (e' - f').toNat ≤ 10 ^ 19 := Nat.pow_le_pow_right (by decide) (by omega)
  have hlt : m'.natAbs * 10 ^ (e' - f').toNat < 340282366920938463463374607431768211456 := by
    have h3 : m'.natAbs * 10 ^ (e' - f').toNat ≤ 9223372036854775808 * 10 ^ 19 := Nat.mul_le_mul (by omega) hp
    have h4 : 9223372036854775808 * 10 ^ 19 < 340282366920938463463374607431768211456 := by decide
    exact Nat.lt_of_le_of_lt h3 h4
  refine ⟨hiw (m'.natAbs * 10 ^ (e' - f').toNat), low (m'.natAbs * 10 ^ (e' - f').toNat), ?_, ?_⟩
  · have h5 := scaled_is (n := m'.natAbs) (d := (e' - f').toNat) (by omega) hlt 40 (by omega)
    rw [h1.1, h1.2, show (((e' - f').toNat : Nat) : Int) = e' - f' by omega] at h5; exact h5
  · have h6 := cmp_is (m'.natAbs * 10 ^ (e' - f').toNat) n'.natAbs
    rw [h2.1, h2.2] at h6; exact h6
theorem mag_ret {m : Int} (hm : I64 m) : Ret 46 #[.int .i64 m] (.agg #[.int .u64 0, .int .u64 (m.natAbs : Int)]) := by
  unfold I64 at hm
  have h1 := hl_small (n := m.natAbs) (by omega)
  refine ret_b fun w => reals_magnitude.calls m 0 m.natAbs w ?_
  rw [mag_is hm.1 hm.2, h1.1, h1.2]
set_option maxHeartbeats 4000000 in
set_option maxRecDepth 100000 in
theorem compare_early (m e n f S T r : Int) (w : World) (hm1 : ∀ w, Calls Try.prog 67 #[.int .i64 m] w fun e w' => e = .returned (.int .i64 S) ∧ w' = w) (hn1 : ∀ w, Calls Try.prog 67 #[.int .i64 n] w fun e w' => e = .returned (.int .i64 T) ∧ w' = w) (h : S < T ∧ r = -1 ∨ T < S ∧ r = 1 ∨ S = 0 ∧ T = 0 ∧ r = 0) :
    Calls Try.prog 35 #[.agg #[.int .i64 m, .int .i64 e], .agg #[.int .i64 n, .int .i64 f]] w fun en w' => en = .returned (.int .i64 r) ∧ Below w.heap.size w w' := by
  have hu := Try.underlying29
  have HM1 := Aside0.mk hm1; have HN1 := Aside0.mk hn1
  have HB := Aside0.mk (fun k => ((cmp_new w #[.int .i64 m, .int .i64 e] #[.int .i64 n, .int .i64 f]).drewN k).s)
  clear hm1 hn1
  rcases h with ⟨h, rfl⟩ | ⟨h, rfl⟩ | ⟨rfl, rfl, rfl⟩
  · have h1 : decide (S < T) = true := decide_eq_true h
    go_enter Try.func35, Try.ntmps35
    go_wp2_with fail
    go_quiet ((first | (go_at_call 67; exact Calls.quiet_of_same (HM1.out _)) | (go_at_call 67; exact Calls.quiet_of_same (HN1.out _))))
    go_wp2
    go_ret
    exact ⟨rfl, HB.out _⟩
  · have h1 : decide (S < T) = false := decide_eq_false (by omega)
    have h2 : decide (T < S) = true := decide_eq_true h
    go_enter Try.func35, Try.ntmps35
    go_wp2_with fail
    go_quiet ((first | (go_at_call 67; exact Calls.quiet_of_same (HM1.out _)) | (go_at_call 67; exact Calls.quiet_of_same (HN1.out _))))
    go_wp2
    go_ret
    exact ⟨rfl, HB.out _⟩
  · go_enter Try.func35, Try.ntmps35
    go_wp2_with fail
    go_quiet ((first | (go_at_call 67; exact Calls.quiet_of_same (HM1.out _)) | (go_at_call 67; exact Calls.quiet_of_same (HN1.out _))))
    go_wp2
    go_ret
    exact ⟨rfl, HB.out _⟩
theorem compare_ret (m e n f : Int) (hm : I64 m) (hn : I64 n) (he : I64 e) (hf : I64 f) : Ret 35 #[.agg #[.int .i64 m, .int .i64 e], .agg #[.int .i64 n, .int .i64 f]] (.int .i64 (cmpS m e n f)) := by
  intro w
  have s1 := sg3 m; have s2 := sg3 n
  by_cases h1 : sg m < sg n
  · exact compare_early m e n f (sg m) (sg n) _ w (sign_calls m) (sign_calls n) (.inl ⟨h1, by unfold cmpS; rw [if_pos h1]⟩)
  by_cases h2 : sg m > sg n
  · exact compare_early m e n f (sg m) (sg n) _ w (sign_calls m) (sign_calls n) (.inr (.inl ⟨h2, by unfold cmpS; rw [if_neg h1, if_pos h2]⟩))
  by_cases h3 : m = 0
  · exact compare_early m e n f (sg m) (sg n) _ w (sign_calls m) (sign_calls n) (.inr (.inr ⟨by omega, by omega, by unfold cmpS; rw [if_neg h1, if_neg h2, if_pos h3]⟩))
  have hS : sg m = 1 ∨ sg m = -1 := by omega
  have hr : cmpS m e n f = if e < f then sg m * -1 * cmpA n f m e else sg m * 1 * cmpA m e n f := by unfold cmpS; rw [if_neg h1, if_neg h2, if_neg h3]
  rw [hr]
  by_cases hef : e < f
  · rw [if_pos hef]
    have hP := sgn_P hS (T := -1) (.inr rfl)
    by_cases hd : 19 < f - e
    · refine compare_main m e n f (sg m) w (sign_calls m) (sign_is (by omega)) hS he hf m.natAbs n.natAbs (mag_ret hm) (mag_ret hn) _ n f m e n.natAbs m.natAbs (-1) 0 0 0 _ 40 hP.1 hP.2 (fun _ => ⟨rfl, rfl, rfl, rfl, rfl, rfl, rfl⟩) (fun h => absurd hef h) (fun _ => ?_) (fun h => absurd hd h)
      unfold cmpA; rw [if_pos hd, Int.mul_one]
    · obtain ⟨C0, C1, g1, g2⟩ := cmp_near hn hm (show e ≤ f by omega) hd
      refine compare_main m e n f (sg m) w (sign_calls m) (sign_is (by omega)) hS he hf m.natAbs n.natAbs (mag_ret hm) (mag_ret hn) _ n f m e n.natAbs m.natAbs (-1) _ C0 C1 _ 40 hP.1 hP.2 (fun _ => ⟨rfl, rfl, rfl, rfl, rfl, rfl, rfl⟩) (fun h => absurd hef h) (fun h => absurd h hd) (fun _ => ⟨g1, g2, c3_bd _ _, ?_⟩)
      unfold cmpA; rw [if_neg hd]
  · rw [if_neg hef]
    have hP := sgn_P hS (T := 1) (.inl rfl)
    by_cases hd : 19 < e - f
    · refine compare_main m e n f (sg m) w (sign_calls m) (sign_is (by omega)) hS he hf m.natAbs n.natAbs (mag_ret hm) (mag_ret hn) _ m e n f m.natAbs n.natAbs 1 0 0 0 _ 40 hP.1 hP.2 (fun h => absurd h hef) (fun _ => ⟨rfl, rfl, rfl, rfl, rfl, rfl, rfl⟩) (fun _ => ?_) (fun h => absurd hd h)
      unfold cmpA; rw [if_pos hd, Int.mul_one]
    · obtain ⟨C0, C1, g1, g2⟩ := cmp_near hm hn (show f ≤ e by omega) hd
      refine compare_main m e n f (sg m) w (sign_calls m) (sign_is (by omega)) hS he hf m.natAbs n.natAbs (mag_ret hm) (mag_ret hn) _ m e n f m.natAbs n.natAbs 1 _ C0 C1 _ 40 hP.1 hP.2 (fun h => absurd h hef) (fun _ => ⟨rfl, rfl, rfl, rfl, rfl, rfl, rfl⟩) (fun h => absurd h hd) (fun _ => ⟨g1, g2, c3_bd _ _, ?_⟩)
      unfold cmpA; rw [if_neg hd]
def IntF (k k2 k3 : Nat) (s m e p c H L C D C2 D2 N er half E2 : Int) (ine g : Bool) : Prop := reals_check.f k s 0 [(⟨m, e⟩ : S29)] = some (p, c) ∧ (c ≠ 0 → N = 0 ∧ er = c) ∧ (c = 0 → reals_magnitude.f m = some (H, L)) ∧ (c = 0 → 19 < e → N = 0 ∧ er = 11) ∧
  (c = 0 → 0 ≤ e → e ≤ 19 → reals_wide_scaled.f k2 H L e = some (C, D) ∧ reals_whole.f k3 s (decide (m < 0)) C D = some (N, er)) ∧
  (c = 0 → e < 0 → IntKind.i64.wrap (-e) = E2 ∧ reals_wide_cut.f H L E2 false = some (C, D, half, ine) ∧ (g = false → reals_whole.f k3 s (decide (m < 0)) C D = some (N, er)) ∧ (g = true → reals_wide_plus.f C D 0 1 = some (C2, D2) ∧ reals_whole.f k3 s (decide (m < 0)) C2 D2 = some (N, er)))
theorem in_new (w : World) (m e : Int) : Bxs w ((w.alloc (.cells #[.int .i64 m, .int .i64 e] 29)).alloc (.cells #[.int .i64 m, .int .i64 e] 29)) [(w.heap.size + 1, #[.int .i64 m, .int .i64 e], 29), (w.heap.size, #[.int .i64 m, .int .i64 e], 29)] := by
  have h := ((bxs_nil w).push #[.int .i64 m, .int .i64 e] 29).push #[.int .i64 m, .int .i64 e] 29
  simpa using h
theorem in_s {w w' : World} {g : Nat} {m e H L : Int} (h : Bxs w w' [(g, #[.int .u64 H, .int .u64 L], 55), (w.heap.size, #[.int .i64 m, .int .i64 e], 29)]) : (w'.cell? ⟨w.heap.size, 0, none⟩ = some (.int .i64 m) ∧ w'.cell? ⟨w.heap.size, 1, none⟩ = some (.int .i64 e) ∧ w'.cell? ⟨g, 0, none⟩ = some (.int .u64 H) ∧ w'.cell? ⟨g, 1, none⟩ = some (.int .u64 L)) ∧ Aside0 (Bxs w w' [(g, #[.int .u64 H, .int .u64 L], 55), (w.heap.size, #[.int .i64 m, .int .i64 e], 29)]) := by
  obtain ⟨a, b⟩ := c2 h.get; obtain ⟨c, d⟩ := c2 h.tail.get
  exact ⟨⟨c, d, a, b⟩, ⟨h⟩⟩
set_option maxHeartbeats 8000000 in
set_option maxRecDepth 100000 in
theorem hint70 (k k2 k3 : Nat) (s m e p c H L C D C2 D2 N er half E2 : Int) (ine g : Bool) (b : Nat) (w : World) (hI : IntF k k2 k3 s m e p c H L C D C2 D2 N er half E2 ine g)
    (hF : ∀ w', Below w.heap.size w w' → Calls Try.prog 70 #[.int .i64 half, .bool ine, .pointer (some ⟨b, 0, none⟩)] w' fun e w'' => e = .returned (.bool g) ∧ Below w'.heap.size w' w'') :
    Calls Try.prog 69 #[.int .i64 s, .agg #[.int .i64 m, .int .i64 e], .func (Fn.func 70) #[] #[.pointer (some ⟨b, 0, none⟩)]] w fun en w' => en = .returned (.tuple #[.int .i64 N, .int .i64 er]) ∧ Below w.heap.size w w' := by
  have hu := Try.underlying29
  have hu2 := Try.underlying55
  obtain ⟨hck, hc, hm, h1, h2, h3⟩ := hI
  have HCK := Aside0.mk hck; have HC := Aside0.mk hc; have HM := Aside0.mk hm; have H1 := Aside0.mk h1; have H2 := Aside0.mk h2; have H3 := Aside0.mk h3; have HF := Aside0.mk hF
  clear hck hc hm h1 h2 h3 hF
  have HX := Aside0.mk (in_new w m e)
  go_enter Try.func69, Try.ntmps69
  go_wp2_with fail
  refine (reals_check.calls k s 0 _ 1 _ p c _ (row1 HX.out.get) (by simp) HCK.out).mono ?_
  rintro e1 w1 ⟨rfl, hb⟩
  have HX1 := Aside0.mk (HX.out.next hb).tail
  clear hb HX
  obtain ⟨x0, x1⟩ := c2 HX1.out.get
  by_cases hc : c = 0
  · have HM2 := Aside0.mk (HM.out hc); have H1b := Aside0.mk (H1.out hc); have H2b := Aside0.mk (H2.out hc); have H3b := Aside0.mk (H3.out hc)
    subst hc
    clear HM H1 H2 H3 HC
    go_wp2_with fail
    refine (reals_magnitude.calls m H L _ HM2.out).mono ?_
    rintro e1 w2 ⟨rfl, hb⟩
    have HX2 := Aside0.mk ((HX1.out.next hb).push #[.int .u64 H, .int .u64 L] 55)
    have HX2a := Aside0.mk (HX1.out.next hb)
    clear hb HX1 x0 x1
    obtain ⟨x0, x1⟩ := c2 HX2a.out.get
    have q0 := blk_lt HX2a.out.get
    by_cases h19 : 19 < e
    · obtain ⟨rfl, rfl⟩ := H1b.out h19
      have hd : decide (19 < e) = true := decide_eq_true h19
      go_wp2_with fail
      go_ret2
      exact ⟨rfl, HX2.out.b⟩
    · have hd : decide (19 < e) = false := decide_eq_false h19
      by_cases h0 : 0 ≤ e
      · obtain ⟨hsc, hwh⟩ := H2b.out h0 (by omega)
        have HSC := Aside0.mk hsc; have HWH := Aside0.mk hwh
        have hd2 : decide (0 ≤ e) = true := decide_eq_true h0
        clear hsc hwh h19 h0 H1b H2b H3b HF
        go_upto_region 8 with fail
        go_region_held3 (fun w' => (w'.cell? ⟨w.heap.size, 0, none⟩ = some (.int .i64 m) ∧ w'.cell? ⟨w.heap.size, 1, none⟩ = some (.int .i64 e) ∧ w'.cell? ⟨w2.heap.size, 0, none⟩ = some (.int .u64 H) ∧ w'.cell? ⟨w2.heap.size, 1, none⟩ = some (.int .u64 L)) ∧ Aside0 (Bxs w w' [(w2.heap.size, #[.int .u64 H, .int .u64 L], 55), (w.heap.size, #[.int .i64 m, .int .i64 e], 29)])) (((try go_split_ands); (refine in_s ?_); (first | exact HX4.out | exact HX3.out | exact HX2.out.drew))) (first | (go_at_call 60; (with_reducible refine (reals_wide_scaled.calls k2 H L e C D _ HSC.out).mono ?_); rintro e1 w3 ⟨rfl, hb⟩; have HX3 := Aside0.mk (HX2.out.drew.next hb); clear hb) | (go_at_call 91; (with_reducible refine (reals_whole.calls k3 s (decide (m < 0)) C D N er _ HWH.out).mono ?_); rintro e1 w4 ⟨rfl, hb⟩; have HX4 := Aside0.mk (HX3.out.next hb); clear hb))
        all_goals go_wp2_with fail
        all_goals go_ret2
        all_goals exact ⟨rfl, HX4.out.b⟩
      · obtain ⟨hE, hcut, hgf, hgt⟩ := H3b.out (by omega)
        have HCUT := Aside0.mk hcut; have HGF := Aside0.mk hgf; have HGT := Aside0.mk hgt; have HE := Aside0.mk hE
        have hd2 : decide (0 ≤ e) = false := decide_eq_false h0
        have hneg : e < 0 := by omega
        obtain ⟨y0, y1⟩ := c2 HX2.out.get
        clear hcut hgf hgt h19 h0 H1b H2b H3b
        have hE2 := HE.out
        go_wp2_with fail
        clear hE hE2
        refine (reals_wide_cut.calls H L E2 false C D half ine _ HCUT.out).mono ?_
        rintro e1 w3 ⟨rfl, hb⟩
        have HX3a := Aside0.mk (HX2.out.next hb)
        have HX3 := Aside0.mk ((HX2.out.next hb).push #[.int .u64 C, .int .u64 D] 55)
        have q1 := blk_lt HX3a.out.get
        have q2 := blk_lt HX3a.out.tail.get
        clear hb HX2 HX2a x0 x1 y0 y1
        obtain ⟨x0, x1⟩ := c2 HX3a.out.tail.get
        go_wp2_with fail
        refine (HF.out _ HX3.out.b).mono ?_
        rintro e1 w4 ⟨rfl, hb⟩
        have HX4 := Aside0.mk (HX3.out.next hb)
        clear hb x0 x1 HX3a HX3
        obtain ⟨x0, x1⟩ := c2 HX4.out.tail.tail.get
        obtain ⟨y0, y1⟩ := c2 HX4.out.get
        obtain ⟨f0, f1⟩ := f2 HX4.out.get
        have hl3 := blk_lt HX4.out.tail.get
        cases g
        · have HWH := Aside0.mk (HGF.out rfl)
          clear HGF HGT
          go_wp2_with fail
          refine (reals_whole.calls k3 s (decide (m < 0)) C D N er _ HWH.out).mono ?_
          rintro e1 w5 ⟨rfl, hb⟩
          have HX5 := Aside0.mk (HX4.out.next hb)
          go_wp2_with fail
          go_ret2
          exact ⟨rfl, HX5.out.b⟩
        · obtain ⟨hpl, hwh⟩ := HGT.out rfl
          have HPL := Aside0.mk hpl; have HWH := Aside0.mk hwh
          clear HGF HGT hpl hwh
          go_wp2_with fail
          refine (reals_wide_plus.calls C D 0 1 C2 D2 _ HPL.out).mono ?_
          rintro e1 w5 ⟨rfl, hb⟩
          have HX5a := Aside0.mk (HX4.out.next hb)
          clear hb HX4 x0 x1 y0 y1 f0 f1
          have HX5 := Aside0.mk (HX5a.out.put2 (a' := .int .u64 C2) (b' := .int .u64 D2) (by intro p hp; simp only [List.mem_cons, List.not_mem_nil, or_false] at hp; rcases hp with rfl | rfl <;> dsimp only <;> omega) (by omega))
          obtain ⟨x0, x1⟩ := c2 HX5a.out.tail.tail.get
          obtain ⟨y0, y1⟩ := c2 HX5a.out.get
          obtain ⟨f0, f1⟩ := f2 HX5a.out.get
          have hne : w.heap.size ≠ w3.heap.size := by omega
          clear HX5a
          go_wp2_with fail
          refine (reals_whole.calls k3 s (decide (m < 0)) C2 D2 N er _ HWH.out).mono ?_
          rintro e1 w6 ⟨rfl, hb⟩
          have HX6 := Aside0.mk (HX5.out.next hb)
          go_wp2_with fail
          go_ret2
          exact ⟨rfl, HX6.out.b⟩
  · obtain ⟨rfl, rfl⟩ := HC.out hc
    have hk : (er == 0) = false := by rw [beq_eq_false_iff_ne]; exact hc
    have hk2 : (er != 0) = true := by rw [bne_iff_ne]; exact hc
    clear hc
    go_wp2_with fail
    go_ret2
    exact ⟨rfl, HX1.out.b⟩
set_option maxHeartbeats 8000000 in
set_option maxRecDepth 100000 in
theorem hint73 (k k2 k3 : Nat) (s m e p c H L C D C2 D2 N er half E2 : Int) (ine g : Bool) (w : World) (hI : IntF k k2 k3 s m e p c H L C D C2 D2 N er half E2 ine g)
    (hF : ∀ w', Below w.heap.size w w' → Calls Try.prog 73 #[.int .i64 half, .bool ine] w' fun e w'' => e = .returned (.bool g) ∧ Below w'.heap.size w' w'') :
    Calls Try.prog 69 #[.int .i64 s, .agg #[.int .i64 m, .int .i64 e], .func (Fn.func 73) #[] #[]] w fun en w' => en = .returned (.tuple #[.int .i64 N, .int .i64 er]) ∧ Below w.heap.size w w' := by
  have hu := Try.underlying29
  have hu2 := Try.underlying55
  obtain ⟨hck, hc, hm, h1, h2, h3⟩ := hI
  have HCK := Aside0.mk hck; have HC := Aside0.mk hc; have HM := Aside0.mk hm; have H1 := Aside0.mk h1; have H2 := Aside0.mk h2; have H3 := Aside0.mk h3; have HF := Aside0.mk hF
  clear hck hc hm h1 h2 h3 hF
  have HX := Aside0.mk (in_new w m e)
  go_enter Try.func69, Try.ntmps69
  go_wp2_with fail
  refine (reals_check.calls k s 0 _ 1 _ p c _ (row1 HX.out.get) (by simp) HCK.out).mono ?_
  rintro e1 w1 ⟨rfl, hb⟩
  have HX1 := Aside0.mk (HX.out.next hb).tail
  clear hb HX
  obtain ⟨x0, x1⟩ := c2 HX1.out.get
  by_cases hc : c = 0
  · have HM2 := Aside0.mk (HM.out hc); have H1b := Aside0.mk (H1.out hc); have H2b := Aside0.mk (H2.out hc); have H3b := Aside0.mk (H3.out hc)
    subst hc
    clear HM H1 H2 H3 HC
    go_wp2_with fail
    refine (reals_magnitude.calls m H L _ HM2.out).mono ?_
    rintro e1 w2 ⟨rfl, hb⟩
    have HX2 := Aside0.mk ((HX1.out.next hb).push #[.int .u64 H, .int .u64 L] 55)
    have HX2a := Aside0.mk (HX1.out.next hb)
    clear hb HX1 x0 x1
    obtain ⟨x0, x1⟩ := c2 HX2a.out.get
    have q0 := blk_lt HX2a.out.get
    by_cases h19 : 19 < e
    · obtain ⟨rfl, rfl⟩ := H1b.out h19
      have hd : decide (19 < e) = true := decide_eq_true h19
      go_wp2_with fail
      go_ret2
      exact ⟨rfl, HX2.out.b⟩
    · have hd : decide (19 < e) = false := decide_eq_false h19
      by_cases h0 : 0 ≤ e
      · obtain ⟨hsc, hwh⟩ := H2b.out h0 (by omega)
        have HSC := Aside0.mk hsc; have HWH := Aside0.mk hwh
        have hd2 : decide (0 ≤ e) = true := decide_eq_true h0
        clear hsc hwh h19 h0 H1b H2b H3b HF
        go_upto_region 8 with fail
        go_region_held3 (fun w' => (w'.cell? ⟨w.heap.size, 0, none⟩ = some (.int .i64 m) ∧ w'.cell? ⟨w.heap.size, 1, none⟩ = some (.int .i64 e) ∧ w'.cell? ⟨w2.heap.size, 0, none⟩ = some (.int .u64 H) ∧ w'.cell? ⟨w2.heap.size, 1, none⟩ = some (.int .u64 L)) ∧ Aside0 (Bxs w w' [(w2.heap.size, #[.int .u64 H, .int .u64 L], 55), (w.heap.size, #[.int .i64 m, .int .i64 e], 29)])) (((try go_split_ands); (refine in_s ?_); (first | exact HX4.out | exact HX3.out | exact HX2.out.drew))) (first | (go_at_call 60; (with_reducible refine (reals_wide_scaled.calls k2 H L e C D _ HSC.out).mono ?_); rintro e1 w3 ⟨rfl, hb⟩; have HX3 := Aside0.mk (HX2.out.drew.next hb); clear hb) | (go_at_call 91; (with_reducible refine (reals_whole.calls k3 s (decide (m < 0)) C D N er _ HWH.out).mono ?_); rintro e1 w4 ⟨rfl, hb⟩; have HX4 := Aside0.mk (HX3.out.next hb); clear hb))
        all_goals go_wp2_with fail
        all_goals go_ret2
        all_goals exact ⟨rfl, HX4.out.b⟩
      · obtain ⟨hE, hcut, hgf, hgt⟩ := H3b.out (by omega)
        have HCUT := Aside0.mk hcut; have HGF := Aside0.mk hgf; have HGT := Aside0.mk hgt; have HE := Aside0.mk hE
        have hd2 : decide (0 ≤ e) = false := decide_eq_false h0
        have hneg : e < 0 := by omega
        obtain ⟨y0, y1⟩ := c2 HX2.out.get
        clear hcut hgf hgt h19 h0 H1b H2b H3b
        have hE2 := HE.out
        go_wp2_with fail
        clear hE hE2
        refine (reals_wide_cut.calls H L E2 false C D half ine _ HCUT.out).mono ?_
        rintro e1 w3 ⟨rfl, hb⟩
        have HX3a := Aside0.mk (HX2.out.next hb)
        have HX3 := Aside0.mk ((HX2.out.next hb).push #[.int .u64 C, .int .u64 D] 55)
        have q1 := blk_lt HX3a.out.get
        have q2 := blk_lt HX3a.out.tail.get
        clear hb HX2 HX2a x0 x1 y0 y1
        obtain ⟨x0, x1⟩ := c2 HX3a.out.tail.get
        go_wp2_with fail
        refine (HF.out _ HX3.out.b).mono ?_
        rintro e1 w4 ⟨rfl, hb⟩
        have HX4 := Aside0.mk (HX3.out.next hb)
        clear hb x0 x1 HX3a HX3
        obtain ⟨x0, x1⟩ := c2 HX4.out.tail.tail.get
        obtain ⟨y0, y1⟩ := c2 HX4.out.get
        obtain ⟨f0, f1⟩ := f2 HX4.out.get
        have hl3 := blk_lt HX4.out.tail.get
        cases g
        · have HWH := Aside0.mk (HGF.out rfl)
          clear HGF HGT
          go_wp2_with fail
          refine (reals_whole.calls k3 s (decide (m < 0)) C D N er _ HWH.out).mono ?_
          rintro e1 w5 ⟨rfl, hb⟩
          have HX5 := Aside0.mk (HX4.out.next hb)
          go_wp2_with fail
          go_ret2
          exact ⟨rfl, HX5.out.b⟩
        · obtain ⟨hpl, hwh⟩ := HGT.out rfl
          have HPL := Aside0.mk hpl; have HWH := Aside0.mk hwh
          clear HGF HGT hpl hwh
          go_wp2_with fail
          refine (reals_wide_plus.calls C D 0 1 C2 D2 _ HPL.out).mono ?_
          rintro e1 w5 ⟨rfl, hb⟩
          have HX5a := Aside0.mk (HX4.out.next hb)
          clear hb HX4 x0 x1 y0 y1 f0 f1
          have HX5 := Aside0.mk (HX5a.out.put2 (a' := .int .u64 C2) (b' := .int .u64 D2) (by intro p hp; simp only [List.mem_cons, List.not_mem_nil, or_false] at hp; rcases hp with rfl | rfl <;> dsimp only <;> omega) (by omega))
          obtain ⟨x0, x1⟩ := c2 HX5a.out.tail.tail.get
          obtain ⟨y0, y1⟩ := c2 HX5a.out.get
          obtain ⟨f0, f1⟩ := f2 HX5a.out.get
          have hne : w.heap.size ≠ w3.heap.size := by omega
          clear HX5a
          go_wp2_with fail
          refine (reals_whole.calls k3 s (decide (m < 0)) C2 D2 N er _ HWH.out).mono ?_
          rintro e1 w6 ⟨rfl, hb⟩
          have HX6 := Aside0.mk (HX5.out.next hb)
          go_wp2_with fail
          go_ret2
          exact ⟨rfl, HX6.out.b⟩
  · obtain ⟨rfl, rfl⟩ := HC.out hc
    have hk : (er == 0) = false := by rw [beq_eq_false_iff_ne]; exact hc
    have hk2 : (er != 0) = true := by rw [bne_iff_ne]; exact hc
    clear hc
    go_wp2_with fail
    go_ret2
    exact ⟨rfl, HX1.out.b⟩
theorem clo70 (b : Nat) (m e half : Int) (ine : Bool) (w : World) (h : w.heap[b]? = some (.cells #[.int .i64 m, .int .i64 e] 29 (0, 0))) : Calls Try.prog 70 #[.int .i64 half, .bool ine, .pointer (some ⟨b, 0, none⟩)] w fun e w' => e = .returned (.bool (decide (m < 0) && ine)) ∧ Below w.heap.size w w' := by
  have hu := Try.underlying29
  obtain ⟨x0, x1⟩ := c2 h
  clear h
  by_cases hm : m < 0
  · have hd : decide (m < 0) = true := decide_eq_true hm
    go_enter Try.func70, Try.ntmps70
    go_wp2
    go_ret
    exact ⟨by simp [hm], Below.refl _ _⟩
  · have hd : decide (m < 0) = false := decide_eq_false hm
    go_enter Try.func70, Try.ntmps70
    go_wp2
    go_ret
    exact ⟨by simp [hm], Below.refl _ _⟩
theorem clo73 (half : Int) (ine : Bool) (w : World) : Calls Try.prog 73 #[.int .i64 half, .bool ine] w fun e w' => e = .returned (.bool (decide (0 ≤ half))) ∧ Below w.heap.size w w' := by
  go_enter Try.func73, Try.ntmps73
  go_wp2
  go_ret
  exact ⟨rfl, Below.refl _ _⟩
set_option maxHeartbeats 2000000 in
theorem hent_walk (s m e N er : Int) (w : World) (H : ∀ b W, W.heap[b]? = some (.cells #[.int .i64 m, .int .i64 e] 29 (0, 0)) → Calls Try.prog 69 #[.int .i64 s, .agg #[.int .i64 m, .int .i64 e], .func (Fn.func 70) #[] #[.pointer (some ⟨b, 0, none⟩)]] W fun en w' => en = .returned (.tuple #[.int .i64 N, .int .i64 er]) ∧ Below W.heap.size W w') :
    Calls Try.prog 39 #[.int .i64 s, .agg #[.int .i64 m, .int .i64 e]] w fun en w' => en = .returned (.tuple #[.int .i64 N, .int .i64 er]) ∧ Below w.heap.size w w' := by
  have hu := Try.underlying29
  have HH := Aside0.mk H
  have HX := Aside0.mk ((bxs_nil w).push #[.int .i64 m, .int .i64 e] 29)
  clear H
  go_enter Try.func39, Try.ntmps39
  go_wp2_with fail
  refine (HH.out w.heap.size _ HX.out.get).mono ?_
  rintro e1 w1 ⟨rfl, hb⟩
  have HX1 := Aside0.mk (HX.out.next hb)
  clear hb
  go_wp2_with fail
  go_ret2
  exact ⟨rfl, HX1.out.b⟩
set_option maxHeartbeats 2000000 in
theorem hrou_walk (s m e N er : Int) (w : World) (H : ∀ W, Calls Try.prog 69 #[.int .i64 s, .agg #[.int .i64 m, .int .i64 e], .func (Fn.func 73) #[] #[]] W fun en w' => en = .returned (.tuple #[.int .i64 N, .int .i64 er]) ∧ Below W.heap.size W w') :
    Calls Try.prog 41 #[.int .i64 s, .agg #[.int .i64 m, .int .i64 e]] w fun en w' => en = .returned (.tuple #[.int .i64 N, .int .i64 er]) ∧ Below w.heap.size w w' := by
  have hu := Try.underlying29
  have HH := Aside0.mk H
  have HX := Aside0.mk ((bxs_nil w).push #[.int .i64 m, .int .i64 e] 29)
  clear H
  go_enter Try.func41, Try.ntmps41
  go_wp2_with fail
  refine (HH.out _).mono ?_
  rintro e1 w1 ⟨rfl, hb⟩
  have HX1 := Aside0.mk (HX.out.next hb)
  clear hb
  go_wp2_with fail
  go_ret2
  exact ⟨rfl, HX1.out.b⟩
def top (s : Int) : Int := if s = -1 then 32767 else if s = 0 then 2147483647 else if s = 1 then 999999999999999999 else 0
def wid (s : Int) : Int := if s = -1 then 16 else if s = 0 then 32 else if s = 1 then 60 else 0
theorem top_bd (s : Int) : 0 ≤ top s ∧ top s ≤ 999999999999999999 := by
  unfold top; repeat' split
  all_goals omega
theorem iof_is (s : Int) : ints_of.f s = some (top s, wid s, er s) := by
  unfold ints_of.f top wid er
  repeat' split
  all_goals first | rfl | omega
theorem ihas_is {M W n : Int} (h0 : 0 ≤ M) (h1 : M ≤ 999999999999999999) : ints_length_has.f M W n = some (decide (-M ≤ n ∧ n ≤ M)) := by
  unfold ints_length_has.f
  rw [x64 (by omega) (by omega)]
  by_cases h : -M ≤ n
  · rw [if_pos h]; congr 1; rw [decide_eq_decide]; exact ⟨fun x => ⟨h, x⟩, fun x => x.2⟩
  · rw [if_neg h]; congr 1; symm; rw [decide_eq_false_iff_not]; exact fun x => h x.1
theorem ints1 (s a : Int) (k : Nat) : ints_ints.f (k + 2) s [a] = some (top s, wid s, if er s = 0 then (if -top s ≤ a ∧ a ≤ top s then 0 else 11) else er s) := by
  have hb := top_bd s
  unfold ints_ints.f; rw [iof_is]; simp only [Option.bind_some]
  simp only [ints_ints.l0, List.length_singleton]
  rw [if_pos (by decide), if_pos (by decide), if_pos (by decide)]
  have e1 : wrap64 (0 + 1) = 1 := x64 (by omega) (by omega)
  have hr : rd [a] 0 = a := rfl
  rw [e1, hr, ihas_is hb.1 hb.2]; simp only [Option.bind_some]
  by_cases he : er s = 0
  · by_cases hi : -top s ≤ a ∧ a ≤ top s <;> simp [he, hi]
  · simp [he]
theorem iis_is {s : Int} (hs : er s = 0) (a : Int) (k : Nat) : ints_Is.f (k + 2) s a = some (decide (-top s ≤ a ∧ a ≤ top s)) := by
  unfold ints_Is.f; rw [ints1, if_pos hs]; simp only [Option.bind_some]
  by_cases hi : -top s ≤ a ∧ a ≤ top s
  · rw [if_pos hi, decide_eq_true hi]; rfl
  · rw [if_neg hi, decide_eq_false hi]; rfl
def inS (s n : Int) : Int × Int := if -top s ≤ n ∧ n ≤ top s then (n, 0) else (0, 11)
theorem sizes_of {s : Int} (hs : er s = 0) : s = -1 ∨ s = 0 ∨ s = 1 := by
  unfold er at hs; split at hs <;> (try split at hs) <;> (try split at hs) <;> omega
theorem within_is {s : Int} (hs : er s = 0) (n : Int) : Ev (fun k => environref02_within.f k s n) (inS s n) := by
  have w1 : wrap64 (-32767) = -32767 := x64 (by omega) (by omega)
  have w2 : wrap64 (-999999999999999999) = -999999999999999999 := x64 (by omega) (by omega)
  refine Ev.step (f := fun _ => some (inS s n)) (fun k => ?_) (Ev.now _)
  unfold environref02_within.f inS top
  rcases sizes_of hs with rfl | rfl | rfl
  · simp only [environref02_within.j0, w1, if_true, if_false, show ((-1 : Int) = 0) = False by simp]
    by_cases h1 : n < -32767
    · rw [if_pos h1, if_neg (by omega)]
    · by_cases h2 : n > 32767
      · rw [if_neg h1, if_pos h2, if_neg (by omega)]
      · rw [if_neg h1, if_neg h2, if_pos (by omega)]
  · simp only [environref02_within.j0, if_true, if_false, show ((0 : Int) = -1) = False by simp]
    by_cases h1 : n < -2147483647
    · rw [if_pos h1, if_neg (by omega)]
    · by_cases h2 : n > 2147483647
      · rw [if_neg h1, if_pos h2, if_neg (by omega)]
      · rw [if_neg h1, if_neg h2, if_pos (by omega)]
  · simp only [environref02_within.j0, w2, if_true, if_false, show ((1 : Int) = -1) = False by simp, show ((1 : Int) = 0) = False by simp]
    by_cases h1 : n < -999999999999999999
    · rw [if_pos h1, if_neg (by omega)]
    · by_cases h2 : n > 999999999999999999
      · rw [if_neg h1, if_pos h2, if_neg (by omega)]
      · rw [if_neg h1, if_neg h2, if_pos (by omega)]
/-- an integer of a magnitude, of the program -/
theorem pwhole_is {s : Int} (hs : er s = 0) (neg : Bool) {c : Nat} (hc : c < 340282366920938463463374607431768211456) : Ev (fun k => reals_whole.f k s neg (hiw c) (low c)) (inS s (sgn neg c)) := by
  have hb := top_bd s
  refine Ev.step (f := fun k => reals_whole.f (k + 1) s neg (hiw c) (low c)) (fun k => rfl) (Ev.step (f := fun k => reals_whole.f (k + 2) s neg (hiw c) (low c)) (fun k => rfl) (Ev.step (f := fun _ => some (inS s (sgn neg c))) (fun k => ?_) (Ev.now _)))
  show reals_whole.f (k + 1 + 2) s neg (hiw c) (low c) = _
  unfold reals_whole.f inS
  by_cases hh : hiw c = 0
  · have hcl : c < 18446744073709551616 := by unfold hiw at hh; omega
    have hl : low c = (c : Int) := by unfold low; rw [Nat.mod_eq_of_lt hcl]
    rw [if_pos hh, hl]
    simp only [reals_whole.j0]
    by_cases hg : (c : Int) > 4611686018427387904
    · rw [decide_eq_true hg, if_pos rfl, if_neg]
      unfold sgn; split <;> omega
    · rw [decide_eq_false hg, if_neg (by decide), x64 (n := (c : Int)) (by omega) (by omega), x64 (n := -(c : Int)) (by omega) (by omega)]
      cases neg
      · rw [if_neg (by decide), show k + 1 + 1 = k + 2 from rfl, iis_is hs]
        simp only [Option.bind_some, sgn, Bool.false_eq_true, if_false, decide_eq_true_eq]; split <;> rfl
      · rw [if_pos rfl, show k + 1 + 1 = k + 2 from rfl, iis_is hs]
        simp only [Option.bind_some, sgn, if_true, decide_eq_true_eq]; split <;> rfl
  · have hcl : 18446744073709551616 ≤ c := by unfold hiw at hh; omega
    rw [if_neg hh]
    simp only [reals_whole.j0]
    rw [if_pos trivial, if_neg]
    unfold sgn; split <;> omega
/-- Entier, Round: what is behind the point, and what is added for it -/
def intS (s m e : Int) (g : Nat × Int × Bool → Int) : Int × Int :=
  if er s = 0 then (if okB (pd s) m.natAbs e = true then (if 0 ≤ e then inS s (sgn (decide (m < 0)) (m.natAbs * 10 ^ e.toNat)) else inS s (g (cutG m.natAbs (-e).toNat false))) else (0, 11)) else (0, 1)
def entG (m : Int) (c : Nat × Int × Bool) : Int := sgn (decide (m < 0)) (c.1 + if m < 0 ∧ c.2.2 = true then 1 else 0)
def rouG (m : Int) (c : Nat × Int × Bool) : Int := sgn (decide (m < 0)) (c.1 + if 0 ≤ c.2.1 then 1 else 0)
/-- what the reference says of a number: the whole part, what is behind it, the error -/
def whS (s m e : Int) : Int × Int × Int :=
  opS s 0 (okB (pd s) m.natAbs e) (if 0 ≤ e then (if (dg m.natAbs : Int) + e > 18 then (0, 0, 11) else (sgn (decide (m < 0)) (m.natAbs * 10 ^ e.toNat), 0, 0)) else (sgn (decide (m < 0)) (cutG m.natAbs (-e).toNat false).1, if (cutG m.natAbs (-e).toNat false).2.2 = true then (cutG m.natAbs (-e).toNat false).2.1 + 2 else 0, 0))
theorem cutG_le (n d : Nat) (b : Bool) : (cutG n d b).1 ≤ n := by
  unfold cutG; split
  · exact Nat.le_refl _
  · exact Nat.div_le_self _ _
theorem rwh_is (s m e : Int) (hm : I64 m) : Ev (fun k => environref02_whole.f k s m e) (whS s m e) := by
  unfold environref02_whole.f whS
  rw [← ok_zero]
  refine ref_op s 0 m e 0 0 hm ⟨by decide, by decide⟩ _ ?_ ?_
  · intro hs _ _ o1 _
    have hp := pd_of hs
    have b1 := okB_bd o1 (by omega)
    have hdg : dg m.natAbs ≤ 18 := by omega
    have hneg : ∀ x : Nat, x < 1000000000000000000 → Aside0 (wrap64 (-(x : Int)) = -(x : Int)) := fun x hx => ⟨x64 (by omega) (by omega)⟩
    simp only [if_true]
    refine Ev.bind (of_is hm.1 hm.2) ?_
    by_cases he : 0 ≤ e
    · simp only [if_pos he, if_pos (show e ≥ 0 from he)]
      have hw : Aside0 (wrap64 (((dl m.natAbs).length : Int) + e) = (dg m.natAbs : Int) + e) := ⟨by rw [len_dl]; exact x64 (by omega) (by omega)⟩
      simp only [hw.out]
      by_cases h18 : (dg m.natAbs : Int) + e > 18
      · simp only [if_pos h18]; exact Ev.now _
      · simp only [if_neg h18]
        have hx : m.natAbs * 10 ^ e.toNat < 1000000000000000000 := by
          have h1 := dg_lt m.natAbs
          have h2 : 10 ^ dg m.natAbs * 10 ^ e.toNat ≤ 10 ^ 18 := by rw [← Nat.pow_add]; exact Nat.pow_le_pow_right (by decide) (by omega)
          have h3 : m.natAbs * 10 ^ e.toNat < 10 ^ dg m.natAbs * 10 ^ e.toNat := Nat.mul_lt_mul_of_pos_right h1 (Nat.pow_pos (by decide))
          omega
        have hsh : environref02_shift.f (dl m.natAbs) e = some (dl (m.natAbs * 10 ^ e.toNat)) := by
          have := shift_is (a := m.natAbs) (k := e.toNat) (by omega) (by omega)
          rw [show ((e.toNat : Nat) : Int) = e by omega] at this; exact this
        simp only [hsh, Option.bind_some]
        refine Ev.bind (small_is hx) ?_
        simp only [(hneg _ hx).out]
        refine Ev.congr (fun k => ?_) (Ev.now _)
        unfold sgn
        by_cases hm0 : m < 0
        · rw [if_pos hm0, decide_eq_true hm0, if_pos rfl]
        · rw [if_neg hm0, decide_eq_false hm0, if_neg (by decide)]
    · simp only [if_neg he, if_neg (show ¬ e ≥ 0 from he)]
      have hz : m.natAbs ≠ 0 := by
        intro h0
        have := o1; unfold okB at this; rw [if_pos h0, decide_eq_true_eq] at this; omega
      have hw : Aside0 (wrap64 (-e) = (((-e).toNat : Nat) : Int)) := ⟨by rw [x64 (by omega) (by omega)]; omega⟩
      have hd0 : (-e).toNat ≠ 0 := by omega
      have hd1 : (-e).toNat ≤ 20000 := by omega
      simp only [hw.out]
      refine Ev.bind (cut_is false m.natAbs 0 false (-e).toNat hd0 (.inl hz) (by omega) hd1) ?_
      have hor := cut_or m.natAbs (-e).toNat false
      have hle := cutG_le m.natAbs (-e).toNat false
      have hx : (cutG m.natAbs (-e).toNat false).1 < 1000000000000000000 := by omega
      have hside : Aside0 (wrap64 ((cutG m.natAbs (-e).toNat false).2.1 + 1 + 1) = (cutG m.natAbs (-e).toNat false).2.1 + 2) := ⟨by rw [x64 (by omega) (by omega)]; omega⟩
      simp only [hside.out]
      generalize (cutG m.natAbs (-e).toNat false).1 = Q at *
      generalize (cutG m.natAbs (-e).toNat false).2.1 = D at *
      cases (cutG m.natAbs (-e).toNat false).2.2
      all_goals
        simp only [if_true, Bool.false_eq_true, if_false]
        refine Ev.bind (small_is hx) ?_
        simp only [(hneg _ hx).out]
        refine Ev.congr (fun k => ?_) (Ev.now _)
        unfold sgn
        by_cases hm0 : m < 0
        · rw [if_pos hm0, decide_eq_true hm0, if_pos rfl]
        · rw [if_neg hm0, decide_eq_false hm0, if_neg (by decide)]
  · intro k t ht; rw [if_neg ht]
theorem opS_cases (s how : Int) (ok : Bool) (r : Int × Int × Int) : (er s ≠ 0 ∧ opS s 0 ok r = (0, 0, 1)) ∨ (er s = 0 ∧ ok = false ∧ opS s 0 ok r = (0, 0, 11)) ∨ (er s = 0 ∧ ok = true ∧ opS s 0 ok r = r) := by
  unfold opS
  by_cases hs : er s = 0
  · rw [if_pos ⟨hs, by decide, by decide⟩]
    cases ok
    · exact .inr (.inl ⟨hs, rfl, by rw [if_neg (by decide)]⟩)
    · exact .inr (.inr ⟨hs, rfl, by rw [if_pos rfl]⟩)
  · exact .inl ⟨hs, by rw [if_neg (fun h => hs h.1)]⟩
theorem big_in {s m e : Int} (ho : okB (pd s) m.natAbs e = true) (he : 0 ≤ e) (h : (dg m.natAbs : Int) + e > 18) (neg : Bool) : inS s (sgn neg (m.natAbs * 10 ^ e.toNat)) = (0, 11) := by
  have hz : m.natAbs ≠ 0 := by
    intro h0
    have := ho; unfold okB at this; rw [if_pos h0, decide_eq_true_eq] at this
    rw [h0, dg_zero] at h; omega
  have hb := top_bd s
  have h1 := dg_le hz
  have hd := dg_pos hz
  have h2 : 10 ^ 18 ≤ 10 ^ (dg m.natAbs - 1) * 10 ^ e.toNat := by rw [← Nat.pow_add]; exact Nat.pow_le_pow_right (by decide) (by omega)
  have h3 : 10 ^ (dg m.natAbs - 1) * 10 ^ e.toNat ≤ m.natAbs * 10 ^ e.toNat := Nat.mul_le_mul_right _ h1
  have h4 : 1000000000000000000 ≤ m.natAbs * 10 ^ e.toNat := by omega
  unfold inS; rw [if_neg]
  unfold sgn; split <;> omega
theorem half_ine (n d : Nat) (h : 0 ≤ (cutG n d false).2.1) : (cutG n d false).2.2 = true := by
  unfold cutG at h ⊢
  by_cases hd : d = 0
  · rw [if_pos hd] at h; dsimp only at h; omega
  · rw [if_neg hd] at h ⊢
    dsimp only at h ⊢
    have hp : 0 < 10 ^ d := Nat.pow_pos (by decide)
    rw [Bool.false_or, decide_eq_true_eq]
    intro h0
    rw [h0] at h
    unfold sdS at h
    rw [if_neg (by omega), if_pos (by omega)] at h
    omega
theorem rent_is (s m e : Int) (hm : I64 m) : Ev (fun k => environref02_Entier.f k s m e) (intS s m e (entG m)) := by
  unfold environref02_Entier.f
  refine Ev.bind (rwh_is s m e hm) ?_
  unfold whS intS
  rcases opS_cases s 0 (okB (pd s) m.natAbs e) (if 0 ≤ e then (if (dg m.natAbs : Int) + e > 18 then (0, 0, 11) else (sgn (decide (m < 0)) (m.natAbs * 10 ^ e.toNat), 0, 0)) else (sgn (decide (m < 0)) (cutG m.natAbs (-e).toNat false).1, if (cutG m.natAbs (-e).toNat false).2.2 = true then (cutG m.natAbs (-e).toNat false).2.1 + 2 else 0, 0)) with ⟨hs, h⟩ | ⟨hs, ho, h⟩ | ⟨hs, ho, h⟩
  · rw [h, if_neg hs]; simp only [show ((1 : Int) = 0) = False by simp, if_false]; exact Ev.now _
  · rw [h, if_pos hs, ho, if_neg (by decide)]; simp only [show ((11 : Int) = 0) = False by simp, if_false]; exact Ev.now _
  · rw [h, if_pos hs, ho, if_pos rfl]
    by_cases he : 0 ≤ e
    · simp only [if_pos he]
      by_cases h18 : (dg m.natAbs : Int) + e > 18
      · simp only [if_pos h18, show ((11 : Int) = 0) = False by simp, if_false]
        rw [big_in ho he h18]; exact Ev.now _
      · simp only [if_neg h18, if_true, show ((0 : Int) > 0) = False by simp, if_false]
        exact Ev.bind (within_is hs _) (Ev.now _)
    · simp only [if_neg he, if_true]
      have hor := cut_or m.natAbs (-e).toNat false
      have hle := cutG_le m.natAbs (-e).toNat false
      have hb := (okB_bd ho (by have := pd_of hs; omega)).1
      unfold entG
      generalize (cutG m.natAbs (-e).toNat false).1 = Q at *
      generalize (cutG m.natAbs (-e).toNat false).2.1 = D at *
      cases (cutG m.natAbs (-e).toNat false).2.2
      · simp only [Bool.false_eq_true, and_false, if_false, Nat.add_zero, show ((0 : Int) > 0) = False by simp]
        exact Ev.bind (within_is hs _) (Ev.now _)
      · have hD : D + 2 > 0 := by omega
        simp only [if_true, and_true, if_pos hD]
        by_cases hm0 : m < 0
        · have e1 : wrap64 (sgn (decide (m < 0)) Q - 1) = sgn (decide (m < 0)) (Q + 1) := by
            rw [decide_eq_true hm0]; unfold sgn; rw [if_pos rfl, if_pos rfl]
            rw [x64 (by omega) (by omega)]; omega
          simp only [if_pos hm0, e1]
          exact Ev.bind (within_is hs _) (Ev.now _)
        · simp only [if_neg hm0, Nat.add_zero]
          exact Ev.bind (within_is hs _) (Ev.now _)
theorem rsign_is (a : Int) : environref02_sign.f a = some (sg a) := by
  unfold environref02_sign.f sg
  split
  · rfl
  · split <;> rfl
theorem rrou_is (s m e : Int) (hm : I64 m) : Ev (fun k => environref02_Round.f k s m e) (intS s m e (rouG m)) := by
  unfold environref02_Round.f
  refine Ev.bind (rwh_is s m e hm) ?_
  unfold whS intS
  rcases opS_cases s 0 (okB (pd s) m.natAbs e) (if 0 ≤ e then (if (dg m.natAbs : Int) + e > 18 then (0, 0, 11) else (sgn (decide (m < 0)) (m.natAbs * 10 ^ e.toNat), 0, 0)) else (sgn (decide (m < 0)) (cutG m.natAbs (-e).toNat false).1, if (cutG m.natAbs (-e).toNat false).2.2 = true then (cutG m.natAbs (-e).toNat false).2.1 + 2 else 0, 0)) with ⟨hs, h⟩ | ⟨hs, ho, h⟩ | ⟨hs, ho, h⟩
  · rw [h, if_neg hs]; simp only [show ((1 : Int) = 0) = False by simp, if_false]; exact Ev.now _
  · rw [h, if_pos hs, ho, if_neg (by decide)]; simp only [show ((11 : Int) = 0) = False by simp, if_false]; exact Ev.now _
  · rw [h, if_pos hs, ho, if_pos rfl]
    by_cases he : 0 ≤ e
    · simp only [if_pos he]
      by_cases h18 : (dg m.natAbs : Int) + e > 18
      · simp only [if_pos h18, show ((11 : Int) = 0) = False by simp, if_false]
        rw [big_in ho he h18]; exact Ev.now _
      · simp only [if_neg h18, if_true, show ((0 : Int) ≥ 2) = False by simp, if_false]
        exact Ev.bind (within_is hs _) (Ev.now _)
    · simp only [if_neg he, if_true]
      have hor := cut_or m.natAbs (-e).toNat false
      have hle := cutG_le m.natAbs (-e).toNat false
      have hhi := half_ine m.natAbs (-e).toNat
      have hb := (okB_bd ho (by have := pd_of hs; omega)).1
      have hz : m.natAbs ≠ 0 := by
        intro h0
        have := ho; unfold okB at this; rw [if_pos h0, decide_eq_true_eq] at this; omega
      unfold rouG
      generalize (cutG m.natAbs (-e).toNat false).1 = Q at *
      generalize (cutG m.natAbs (-e).toNat false).2.1 = D at *
      by_cases hD : 0 ≤ D
      · have h2 : (if (cutG m.natAbs (-e).toNat false).2.2 = true then D + 2 else 0) ≥ 2 := by rw [if_pos (hhi hD)]; omega
        simp only [if_pos h2, if_pos hD, rsign_is, Option.bind_some]
        have e1 : wrap64 (sgn (decide (m < 0)) Q + sg m) = sgn (decide (m < 0)) (Q + 1) := by
          unfold sgn sg
          by_cases hm0 : m < 0
          · rw [decide_eq_true hm0, if_pos rfl, if_pos rfl, if_pos hm0, x64 (by omega) (by omega)]; omega
          · rw [decide_eq_false hm0, if_neg (by decide), if_neg hm0, if_pos (by omega), if_neg (by decide), x64 (by omega) (by omega)]; omega
        simp only [e1]
        exact Ev.bind (within_is hs _) (Ev.now _)
      · have h2 : ¬ (if (cutG m.natAbs (-e).toNat false).2.2 = true then D + 2 else 0) ≥ 2 := by split <;> omega
        simp only [if_neg h2, if_neg hD, Nat.add_zero]
        exact Ev.bind (within_is hs _) (Ev.now _)
def intG (m : Int) (gb : Int → Bool → Bool) (x : Nat × Int × Bool) : Int := sgn (decide (m < 0)) (x.1 + if gb x.2.1 x.2.2 = true then 1 else 0)
theorem entG_is (m : Int) : entG m = intG m (fun _ i => decide (m < 0) && i) := by
  funext x; unfold entG intG; by_cases h : m < 0 <;> simp [h]
theorem rouG_is (m : Int) : rouG m = intG m (fun h _ => decide (0 ≤ h)) := by
  funext x; unfold rouG intG; simp
theorem int_data {s m e N c : Int} (hm : I64 m) (gb : Int → Bool → Bool) (h : intS s m e (intG m gb) = (N, c)) :
    ∃ k k2 k3 p c0 H L C D C2 D2 half E2 ine, IntF k k2 k3 s m e p c0 H L C D C2 D2 N c half E2 ine (gb half ine) := by
  obtain ⟨k, hk⟩ := (check_is s 0 [(⟨m, e⟩ : S29)] (one_bd1 hm) (by simp)).rounds
  have hall : (List.all [(⟨m, e⟩ : S29)] fun x => okB (pd s) x.f0.natAbs x.f1) = okB (pd s) m.natAbs e := by simp
  rw [hall] at hk
  unfold checkS at hk
  unfold intS at h
  by_cases hs : er s = 0
  · rw [if_pos hs] at h
    rw [if_pos ⟨hs, by decide, by decide⟩] at hk
    by_cases ho : okB (pd s) m.natAbs e = true
    · rw [if_pos ho] at h hk
      have b1 := okB_bd ho (by have := pd_of hs; omega)
      have hmag := mag_is hm.1 hm.2
      by_cases he0 : 0 ≤ e
      · rw [if_pos he0] at h
        by_cases h19 : 19 < e
        · have hz : m.natAbs ≠ 0 := by
            intro h0
            have := ho; unfold okB at this; rw [if_pos h0, decide_eq_true_eq] at this; omega
          rw [big_in ho he0 (by have := dg_pos hz; omega)] at h
          obtain ⟨rfl, rfl⟩ := Prod.mk.injEq .. ▸ h
          exact ⟨k, 0, 0, _, 0, _, _, 0, 0, 0, 0, 0, 0, false, hk, fun h => absurd rfl h, fun _ => hmag, fun _ _ => ⟨rfl, rfl⟩, fun _ _ h2 => absurd h2 (by omega), fun _ h2 => absurd h2 (by omega)⟩
        · have hlt : m.natAbs * 10 ^ e.toNat < 340282366920938463463374607431768211456 := by
            have h1 : 10 ^ e.toNat ≤ 10 ^ 19 := Nat.pow_le_pow_right (by decide) (by omega)
            have h2 : m.natAbs * 10 ^ e.toNat ≤ 1000000000000000000 * 10 ^ 19 := Nat.mul_le_mul (by omega) h1
            omega
          obtain ⟨k2, hk2⟩ := (scaled_ev (n := m.natAbs) (d := e.toNat) (by omega) hlt).rounds
          obtain ⟨k3, hk3⟩ := (pwhole_is hs (decide (m < 0)) hlt).rounds
          rw [h] at hk3
          rw [show ((e.toNat : Nat) : Int) = e by omega] at hk2
          exact ⟨k, k2, k3, _, 0, _, _, _, _, 0, 0, 0, 0, false, hk, fun h => absurd rfl h, fun _ => hmag, fun _ h2 => absurd h2 h19, fun _ _ _ => ⟨hk2, hk3⟩, fun _ h2 => absurd h2 (by omega)⟩
      · rw [if_neg he0] at h
        have hcut := pcut_is (n := m.natAbs) (by omega) (d := (-e).toNat) (by omega) false
        have hle := cutG_le m.natAbs (-e).toNat false
        have hE : IntKind.i64.wrap (-e) = (((-e).toNat : Nat) : Int) := by rw [w64r, x64 (by omega) (by omega)]; omega
        unfold intG at h
        generalize hc : cutG m.natAbs (-e).toNat false = cc at *
        obtain ⟨Q, half, ine⟩ := cc
        dsimp only at h hcut hle
        by_cases hg : gb half ine = true
        · rw [if_pos hg] at h
          obtain ⟨k3, hk3⟩ := (pwhole_is hs (decide (m < 0)) (c := Q + 1) (by omega)).rounds
          rw [h] at hk3
          have hpl := plus_is (n := Q) (m := 1) (by omega)
          rw [show hiw 1 = 0 from rfl, show low 1 = 1 from rfl] at hpl
          exact ⟨k, 0, k3, _, 0, _, _, _, _, _, _, half, _, ine, hk, fun h => absurd rfl h, fun _ => hmag, fun _ h2 => absurd h2 (by omega), fun _ h2 => absurd h2 he0, fun _ _ => ⟨hE, hcut, fun h2 => absurd hg (by rw [h2]; decide), fun _ => ⟨hpl, hk3⟩⟩⟩
        · rw [if_neg hg, Nat.add_zero] at h
          obtain ⟨k3, hk3⟩ := (pwhole_is hs (decide (m < 0)) (c := Q) (by omega)).rounds
          rw [h] at hk3
          exact ⟨k, 0, k3, _, 0, _, _, _, _, 0, 0, half, _, ine, hk, fun h => absurd rfl h, fun _ => hmag, fun _ h2 => absurd h2 (by omega), fun _ h2 => absurd h2 he0, fun _ _ => ⟨hE, hcut, fun _ => hk3, fun h2 => absurd h2 hg⟩⟩
    · rw [if_neg ho] at h hk
      obtain ⟨rfl, rfl⟩ := Prod.mk.injEq .. ▸ h
      exact ⟨k, 0, 0, _, 11, 0, 0, 0, 0, 0, 0, 0, 0, false, hk, fun _ => ⟨rfl, rfl⟩, fun h => absurd h (by decide), fun h => absurd h (by decide), fun h => absurd h (by decide), fun h => absurd h (by decide)⟩
  · rw [if_neg hs] at h
    rw [if_neg (fun h => hs h.1)] at hk
    obtain ⟨rfl, rfl⟩ := Prod.mk.injEq .. ▸ h
    exact ⟨k, 0, 0, _, 1, 0, 0, 0, 0, 0, 0, 0, 0, false, hk, fun _ => ⟨rfl, rfl⟩, fun h => absurd h (by decide), fun h => absurd h (by decide), fun h => absurd h (by decide), fun h => absurd h (by decide)⟩
theorem ent_ret {s m e N c : Int} (hm : I64 m) (h : intS s m e (entG m) = (N, c)) : Ret 39 #[.int .i64 s, .agg #[.int .i64 m, .int .i64 e]] (.tuple #[.int .i64 N, .int .i64 c]) := by
  rw [entG_is] at h
  obtain ⟨k, k2, k3, p, c0, H, L, C, D, C2, D2, half, E2, ine, hI⟩ := int_data hm _ h
  exact ret_b fun w => hent_walk s m e N c w fun b W hb => hint70 k k2 k3 s m e p c0 H L C D C2 D2 N c half E2 ine _ b W hI fun w' hw => clo70 b m e half ine w' (blk_below hb hw)
theorem rou_ret {s m e N c : Int} (hm : I64 m) (h : intS s m e (rouG m) = (N, c)) : Ret 41 #[.int .i64 s, .agg #[.int .i64 m, .int .i64 e]] (.tuple #[.int .i64 N, .int .i64 c]) := by
  rw [rouG_is] at h
  obtain ⟨k, k2, k3, p, c0, H, L, C, D, C2, D2, half, E2, ine, hI⟩ := int_data hm _ h
  exact ret_b fun w => hrou_walk s m e N c w fun W => hint73 k k2 k3 s m e p c0 H L C D C2 D2 N c half E2 ine _ W hI fun w' hw => clo73 half ine w'
theorem pu2 {P : Program} {ops : Array Oper} {Q : Exit → Act → World → Prop} {md : Region.Mode} {S : World → Prop} {ds : List Nat} {T : Bool × List (List Nat × List Nat)} {oi : Oper} {v : Value} {fuel : Nat} {l : Array Bool} {a a' : Act} {w : World} (i N : Nat) (l' : Array Bool) (HT : Aside0 (rtab md ops = T)) (h : wpAnyLast P md ops Q S ds fuel l' a' w)
    (hi : ops[i]? = some oi := by rfl) (hN : oi.dst = some N := by rfl) (hc : anyT T l.toList l'.toList i = true := by as_aux_lemma => kernel_rfl) (hQ : ∀ c a w, Q (.panic c) (a.put oi.dst v) w → Q (.panic c) a w := by exact fun _ _ _ h => h)
    (hw : Region.wanted oi (yielded ops a.tmps) = true := by as_aux_lemma => kernel_rfl) (hy : ∀ w, (execOp a.eval oi).run P w = .ok (.value v) w := by intro w'; go_simp; with_reducible rfl)
    (ha : a.put (some N) v = a' := by simp only [sx, i64_w, i32_w]; rfl) : wpAnyLast P md ops Q S ds (fuel + 1) l a w := pure_ l' hi hN (any_of HT.out hc) hQ (.inl ⟨hw, hy⟩) ha h
theorem ta2 {P : Program} {ops : Array Oper} {Q : Exit → Act → World → Prop} {md : Region.Mode} {S : World → Prop} {ds : List Nat} {T : Bool × List (List Nat × List Nat)} {B : List Nat} {oi : Oper} {v : Value} {fuel : Nat} {l : Array Bool} {a a' : Act} {w : World} (i N : Nat) (l' : Array Bool) (HT : Aside0 (rtab md ops = T)) (HW : Aside0 (waitsOk T.2 B = true)) (hS : S w) (h : wpAnyLast P md ops Q S ds fuel l' a' w)
    (hi : ops[i]? = some oi := by rfl) (hN : oi.dst = some N := by rfl) (hc : takeW T B ds l.toList l'.toList i = true := by as_aux_lemma => kernel_rfl) (hQ : ∀ c a w, Q (.panic c) (a.put oi.dst v) w → Q (.panic c) a w := by exact fun _ _ _ h => h)
    (hw : Region.wanted oi (yielded ops a.tmps) = true := by as_aux_lemma => kernel_rfl) (hy : ∀ w, S w → (execOp a.eval oi).run P w = .ok (.value v) w := by intro w' hS; (try dsimp only at hS); go_simp; with_reducible rfl)
    (ha : a.put (some N) v = a' := by simp only [sx, i64_w, i32_w]; rfl) : wpAnyLast P md ops Q S ds (fuel + 1) l a w := take_ l' hi hN (take_ofW HT.out HW.out hc) hQ (.inl ⟨hw, hy⟩) hS ha h
def ints_T : Bool × List (List Nat × List Nat) := (true, [([], []), ([], []), ([0, 1], [0, 1]), ([2], [2]), ([3], [3]), ([3], [3]), ([4, 5, 3], [3, 4, 5]), ([3, 6], [3, 6]), ([7, 3], [7]), ([8], [8]), ([8], [8]), ([9, 10, 8], [8, 9, 10]), ([8, 11], [8, 11]), ([12, 8], [12]), ([13], [13]), ([13], [13]), ([14, 15, 13], [13, 14, 15]), ([13, 16], [13, 16]), ([17, 13], [17]), ([18], [18]), ([18], [18]), ([19, 20, 18, 18], [18, 19, 20]), ([18], [18]), ([18], [18]), ([22, 23, 21, 18], [18, 22, 23]), ([21, 24, 18], [18, 21, 24]), ([18, 25], [18, 25]), ([26, 24], [26]), ([27], [27]), ([28, 27], [27, 28]), ([27], [27]), ([29, 30, 27, 27], [27, 29, 30]), ([31, 27], [27, 31]), ([31, 27], [27, 31]), ([32, 33, 31, 27], [27, 32, 33]), ([27], [27]), ([35, 27], [27, 35]), ([27], [27]), ([36, 37, 34, 27], [27, 36, 37]), ([38, 27], [27, 38]), ([38, 27], [27, 38]), ([34, 39, 40, 38, 27], [27, 34, 39, 40]), ([27, 41], [27, 41]), ([42, 41], [42]), ([43], [43]), ([44, 43], [43, 44]), ([43], [43]), ([46, 43], [43, 46]), ([43], [43]), ([45, 47, 48, 43, 43], [43, 45, 47, 48]), ([49, 43], [43, 49]), ([49, 43], [43, 49]), ([50, 51, 49, 43], [43, 50, 51]), ([43], [43]), ([53, 43], [43, 53]), ([43], [43]), ([55, 43], [43, 55]), ([43], [43]), ([54, 56, 57, 52, 43], [43, 54, 56, 57]), ([58, 43], [43, 58]), ([58, 43], [43, 58]), ([52, 59, 60, 58, 43], [43, 52, 59, 60]), ([43, 61], [43, 61]), ([62, 61, 0, 1, 2, 3, 4, 5, 6, 7, 8, 9, 10, 11, 12, 13, 14, 15, 16, 17, 18, 19, 20, 21, 22, 23, 24, 25, 26, 27, 28, 29, 30, 31, 32, 33, 34, 35, 36, 37, 38, 39, 40, 41, 42, 43, 44, 45, 46, 47, 48, 49, 50, 51, 52, 53, 54, 55, 56, 57, 58, 59, 60, 61, 62], [62])])
def ints_B : List Nat := [0, 0, 3, 7, 15, 15, 63, 127, 255, 511, 511, 2047, 4095, 8191, 16383, 16383, 65535, 131071, 262143, 524287, 524287, 2097151, 524287, 524287, 16777215, 33554431, 67108863, 134217727, 268435455, 536870911, 268435455, 2147483647, 4294967295, 4294967295, 17179869183, 268435455, 34628173823, 268435455, 274877906943, 549755813887, 549755813887, 2199023255551, 4398046511103, 8796093022207, 17592186044415, 35184372088831, 17592186044415, 87960930222079, 17592186044415, 562949953421311, 1125899906842623, 1125899906842623, 4503599627370495, 17592186044415, 9024791440785407, 17592186044415, 36046389205008383, 17592186044415, 288230376151711743, 576460752303423487, 576460752303423487, 2305843009213693951, 4611686018427387903, 9223372036854775807]
theorem ops_new (w : World) (s h xm xe ym ye : Int) : Bxs w (((w.alloc (.cells #[.int .i64 s, .int .i64 h] 23)).alloc (.cells #[.int .i64 xm, .int .i64 xe] 29)).alloc (.cells #[.int .i64 ym, .int .i64 ye] 29)) [(w.heap.size + 1 + 1, #[.int .i64 ym, .int .i64 ye], 29), (w.heap.size + 1, #[.int .i64 xm, .int .i64 xe], 29), (w.heap.size, #[.int .i64 s, .int .i64 h], 23)] := by
  have h := (((bxs_nil w).push #[.int .i64 s, .int .i64 h] 23).push #[.int .i64 xm, .int .i64 xe] 29).push #[.int .i64 ym, .int .i64 ye] 29
  simpa using h
theorem ops_s {w w' : World} {s h xm xe ym ye : Int} (hh : Bxs w w' [(w.heap.size + 1 + 1, #[.int .i64 ym, .int .i64 ye], 29), (w.heap.size + 1, #[.int .i64 xm, .int .i64 xe], 29), (w.heap.size, #[.int .i64 s, .int .i64 h], 23)]) : (w'.cell? ⟨w.heap.size, 0, none⟩ = some (.int .i64 s) ∧ w'.cell? ⟨w.heap.size, 1, none⟩ = some (.int .i64 h) ∧ w'.cell? ⟨w.heap.size + 1, 0, none⟩ = some (.int .i64 xm) ∧ w'.cell? ⟨w.heap.size + 1, 1, none⟩ = some (.int .i64 xe) ∧ w'.cell? ⟨w.heap.size + 1 + 1, 0, none⟩ = some (.int .i64 ym) ∧ w'.cell? ⟨w.heap.size + 1 + 1, 1, none⟩ = some (.int .i64 ye)) ∧ Aside0 (Bxs w w' [(w.heap.size + 1 + 1, #[.int .i64 ym, .int .i64 ye], 29), (w.heap.size + 1, #[.int .i64 xm, .int .i64 xe], 29), (w.heap.size, #[.int .i64 s, .int .i64 h], 23)]) := by
  obtain ⟨a, b⟩ := c2 hh.get; obtain ⟨c, d⟩ := c2 hh.tail.get; obtain ⟨e, f⟩ := c2 hh.tail.tail.get
  exact ⟨⟨e, f, c, d, a, b⟩, ⟨hh⟩⟩
set_option maxHeartbeats 16000000 in
set_option maxRecDepth 100000 in
theorem ints_walk (s h xm xe ym ye A ca B cb T M0 E0 c0 M1 E1 c1 : Int) (w : World) (h11 : Ret 11 #[] (.bool true))
    (h39 : Ret 39 #[.int .i64 s, .agg #[.int .i64 xm, .int .i64 xe]] (.tuple #[.int .i64 A, .int .i64 ca]))
    (h40 : Ret 40 #[.int .i64 s, .agg #[.int .i64 xm, .int .i64 xe]] (.tuple #[.int .i64 A, .int .i64 ca]))
    (h41 : Ret 41 #[.int .i64 s, .agg #[.int .i64 xm, .int .i64 xe]] (.tuple #[.int .i64 B, .int .i64 cb]))
    (h42 : Ret 42 #[.int .i64 s, .agg #[.int .i64 xm, .int .i64 xe]] (.tuple #[.int .i64 B, .int .i64 cb]))
    (h35 : Ret 35 #[.agg #[.int .i64 xm, .int .i64 xe], .agg #[.int .i64 ym, .int .i64 ye]] (.int .i64 T))
    (h43 : Ret 43 #[.agg #[.int .i64 xm, .int .i64 xe], .agg #[.int .i64 ym, .int .i64 ye]] (.int .i64 T))
    (h36 : Ret 36 #[.int .i64 s, .agg #[.int .i64 xm, .int .i64 xe]] (.tuple #[.agg #[.int .i64 M0, .int .i64 E0], .int .i64 c0]))
    (h44 : Ret 44 #[.int .i64 s, .agg #[.int .i64 xm, .int .i64 xe]] (.tuple #[.agg #[.int .i64 M0, .int .i64 E0], .int .i64 c0]))
    (h37 : Ret 37 #[.int .i64 s, .int .i64 h, .agg #[.int .i64 xm, .int .i64 xe]] (.tuple #[.agg #[.int .i64 M1, .int .i64 E1], .int .i64 c1]))
    (h45 : Ret 45 #[.int .i64 s, .int .i64 h, .agg #[.int .i64 xm, .int .i64 xe]] (.tuple #[.agg #[.int .i64 M1, .int .i64 E1], .int .i64 c1]))
    : Calls Try.prog 10 #[.agg #[.int .i64 s, .int .i64 h], .agg #[.int .i64 xm, .int .i64 xe], .agg #[.int .i64 ym, .int .i64 ye]] w fun e w' => e = .returned (.bool true) ∧ Below w.heap.size w w' := by
  have hu := Try.underlying29
  have hu2 := Try.underlying23
  have H11 := Aside0.mk h11
  have H39 := Aside0.mk h39
  have H40 := Aside0.mk h40
  have H41 := Aside0.mk h41
  have H42 := Aside0.mk h42
  have H35 := Aside0.mk h35
  have H43 := Aside0.mk h43
  have H36 := Aside0.mk h36
  have H44 := Aside0.mk h44
  have H37 := Aside0.mk h37
  have H45 := Aside0.mk h45
  clear h11 h39 h40 h41 h42 h35 h43 h36 h44 h37 h45
  have HX := Aside0.mk (ops_new w s h xm xe ym ye)
  go_enter Try.func10, Try.ntmps10
  go_wp2_with fail
  refine (at_w H11 _).mono ?_
  rintro e1 w1 ⟨rfl, hb⟩
  have Y0 := Aside0.mk (HX.out.next hb); clear hb HX
  obtain ⟨⟨x0, x1, x2, x3, x4, x5⟩, _⟩ := ops_s Y0.out
  go_wp2_with fail
  refine (at_w H39 _).mono ?_
  rintro e1 z0 ⟨rfl, hb⟩
  replace Y0 := Aside0.mk (Y0.out.next hb); clear hb x0 x1 x2 x3 x4 x5
  obtain ⟨⟨x0, x1, x2, x3, x4, x5⟩, _⟩ := ops_s Y0.out
  go_wp2_with fail
  refine (at_w H40 _).mono ?_
  rintro e1 z1 ⟨rfl, hb⟩
  replace Y0 := Aside0.mk (Y0.out.next hb); clear hb x0 x1 x2 x3 x4 x5
  obtain ⟨⟨x0, x1, x2, x3, x4, x5⟩, _⟩ := ops_s Y0.out
  go_wp2_with fail
  refine (at_w H41 _).mono ?_
  rintro e1 z2 ⟨rfl, hb⟩
  replace Y0 := Aside0.mk (Y0.out.next hb); clear hb x0 x1 x2 x3 x4 x5
  obtain ⟨⟨x0, x1, x2, x3, x4, x5⟩, _⟩ := ops_s Y0.out
  go_wp2_with fail
  refine (at_w H42 _).mono ?_
  rintro e1 z3 ⟨rfl, hb⟩
  replace Y0 := Aside0.mk (Y0.out.next hb); clear hb x0 x1 x2 x3 x4 x5
  obtain ⟨⟨x0, x1, x2, x3, x4, x5⟩, _⟩ := ops_s Y0.out
  go_upto_region 7 with fail
  try dsimp only [List.append]
  refine start_ (n := 64) (S := (fun w' => (w'.cell? ⟨w.heap.size, 0, none⟩ = some (.int .i64 s) ∧ w'.cell? ⟨w.heap.size, 1, none⟩ = some (.int .i64 h) ∧ w'.cell? ⟨w.heap.size + 1, 0, none⟩ = some (.int .i64 xm) ∧ w'.cell? ⟨w.heap.size + 1, 1, none⟩ = some (.int .i64 xe) ∧ w'.cell? ⟨w.heap.size + 1 + 1, 0, none⟩ = some (.int .i64 ym) ∧ w'.cell? ⟨w.heap.size + 1 + 1, 1, none⟩ = some (.int .i64 ye)) ∧ Aside0 (Bxs w w' [(w.heap.size + 1 + 1, #[.int .i64 ym, .int .i64 ye], 29), (w.heap.size + 1, #[.int .i64 xm, .int .i64 xe], 29), (w.heap.size, #[.int .i64 s, .int .i64 h], 23)]))) (ds := []) (bl 64 0) (by kernel_rfl) (by kernel_rfl) (by kernel_rfl) (ops_s Y0.out.drew) (fun hHeld => ?_)
  refine with_tabW (T := ints_T) (B := ints_B) (by as_aux_lemma => kernel_rfl) (by as_aux_lemma => kernel_rfl) (fun HT_ HW_ => ?_)
  refine pu2 0 45 (bl 64 0x1) HT_ ?_
  refine pu2 1 46 (bl 64 0x3) HT_ ?_
  refine pu2 2 47 (bl 64 0x7) HT_ ?_
  refine pu2 3 48 (bl 64 0xf) HT_ ?_
  refine pu2 4 49 (bl 64 0x1f) HT_ ?_
  refine pu2 5 50 (bl 64 0x3f) HT_ ?_
  refine pu2 6 51 (bl 64 0x7f) HT_ ?_
  refine pu2 7 52 (bl 64 0xff) HT_ ?_
  refine pu2 8 53 (bl 64 0x1ff) HT_ ?_
  refine pu2 9 54 (bl 64 0x3ff) HT_ ?_
  refine pu2 10 55 (bl 64 0x7ff) HT_ ?_
  refine pu2 11 56 (bl 64 0xfff) HT_ ?_
  refine pu2 12 57 (bl 64 0x1fff) HT_ ?_
  refine pu2 13 58 (bl 64 0x3fff) HT_ ?_
  refine pu2 14 59 (bl 64 0x7fff) HT_ ?_
  refine pu2 15 60 (bl 64 0xffff) HT_ ?_
  refine pu2 16 61 (bl 64 0x1ffff) HT_ ?_
  refine pu2 17 62 (bl 64 0x3ffff) HT_ ?_
  refine pu2 18 63 (bl 64 0x7ffff) HT_ ?_
  refine ta2 19 64 (bl 64 0xfffff) HT_ HW_ hHeld ?_
  refine ta2 20 65 (bl 64 0x1fffff) HT_ HW_ hHeld ?_
  refine ta2 22 67 (bl 64 0x5fffff) HT_ HW_ hHeld ?_
  refine ta2 23 68 (bl 64 0xdfffff) HT_ HW_ hHeld ?_
  refine one_ (i := 21) (N := some 66) (bl 64 0xffffff) rfl rfl (one_of HT_.out (by as_aux_lemma => kernel_rfl)) (by decide) (fun K hK => ?_)
  rw [if_pos (by as_aux_lemma => kernel_rfl)]
  go_simp
  (go_at_call 35; (with_reducible refine (at_w H35 _).mono ?_); rintro e1 v1 ⟨rfl, hb⟩; have Y1 := Aside0.mk (Y0.out.drew.next hb); clear hb)
  refine hK.out _ _ (ops_s Y1.out) (fun hHeld => ?_)
  clear hK K
  refine one_ (i := 24) (N := some 69) (bl 64 0x1ffffff) rfl rfl (one_of HT_.out (by as_aux_lemma => kernel_rfl)) (by decide) (fun K hK => ?_)
  rw [if_pos (by as_aux_lemma => kernel_rfl)]
  go_simp
  (go_at_call 43; (with_reducible refine (at_w H43 _).mono ?_); rintro e1 v2 ⟨rfl, hb⟩; have Y2 := Aside0.mk (Y1.out.next hb); clear hb)
  refine hK.out _ _ (ops_s Y2.out) (fun hHeld => ?_)
  clear hK K
  refine pu2 25 70 (bl 64 0x3ffffff) HT_ ?_
  refine pu2 26 71 (bl 64 0x7ffffff) HT_ ?_
  refine pu2 27 72 (bl 64 0xfffffff) HT_ ?_
  refine pu2 28 73 (bl 64 0x1fffffff) HT_ ?_
  refine ta2 29 74 (bl 64 0x3fffffff) HT_ HW_ hHeld ?_
  refine ta2 30 75 (bl 64 0x7fffffff) HT_ HW_ hHeld ?_
  refine pu2 35 80 (bl 64 0x87fffffff) HT_ ?_
  refine ta2 36 81 (bl 64 0x187fffffff) HT_ HW_ hHeld ?_
  refine ta2 37 82 (bl 64 0x387fffffff) HT_ HW_ hHeld ?_
  refine one_ (i := 31) (N := some 76) (bl 64 0x38ffffffff) rfl rfl (one_of HT_.out (by as_aux_lemma => kernel_rfl)) (by decide) (fun K hK => ?_)
  rw [if_pos (by as_aux_lemma => kernel_rfl)]
  go_simp
  (go_at_call 36; (with_reducible refine (at_w H36 _).mono ?_); rintro e1 v3 ⟨rfl, hb⟩; have Y3 := Aside0.mk (Y2.out.next hb); clear hb)
  refine hK.out _ _ (ops_s Y3.out) (fun hHeld => ?_)
  clear hK K
  refine pu2 32 77 (bl 64 0x39ffffffff) HT_ ?_
  refine pu2 33 78 (bl 64 0x3bffffffff) HT_ ?_
  refine one_ (i := 34) (N := some 79) (bl 64 0x3fffffffff) rfl rfl (one_of HT_.out (by as_aux_lemma => kernel_rfl)) (by decide) (fun K hK => ?_)
  rw [if_pos (by as_aux_lemma => kernel_rfl)]
  go_simp
  (go_at_call 16; (with_reducible refine (one_calls M0 E0 c0 _).mono ?_); rintro e1 v4 ⟨gp0, gq0, rfl, hp, hq, hb⟩; have P0 := Aside0.mk hp; have Q0 := Aside0.mk hq; have Y4 := Aside0.mk (Y3.out.next hb); clear hb hp hq)
  refine hK.out _ _ (ops_s Y4.out) (fun hHeld => ?_)
  clear hK K
  refine one_ (i := 38) (N := some 83) (bl 64 0x7fffffffff) rfl rfl (one_of HT_.out (by as_aux_lemma => kernel_rfl)) (by decide) (fun K hK => ?_)
  rw [if_pos (by as_aux_lemma => kernel_rfl)]
  go_simp
  (go_at_call 44; (with_reducible refine (at_w H44 _).mono ?_); rintro e1 v5 ⟨rfl, hb⟩; have Y5 := Aside0.mk (Y4.out.next hb); have P0b := Aside0.mk (blk_below P0.out hb); have Q0b := Aside0.mk (blk_below Q0.out hb); clear hb)
  refine hK.out _ _ (ops_s Y5.out) (fun hHeld => ?_)
  clear hK K
  refine pu2 39 84 (bl 64 0xffffffffff) HT_ ?_
  refine pu2 40 85 (bl 64 0x1ffffffffff) HT_ ?_
  refine one_ (i := 41) (N := some 86) (bl 64 0x3ffffffffff) rfl rfl (one_of HT_.out (by as_aux_lemma => kernel_rfl)) (by decide) (fun K hK => ?_)
  rw [if_pos (by as_aux_lemma => kernel_rfl)]
  go_simp
  (go_at_call 49; (with_reducible refine (one1_yes gp0 gq0 M0 E0 c0 _ P0b.out Q0b.out).mono ?_); rintro e1 v6 ⟨rfl, hb⟩; have Y6 := Aside0.mk (Y5.out.next hb); clear hb P0 Q0 P0b Q0b)
  refine hK.out _ _ (ops_s Y6.out) (fun hHeld => ?_)
  clear hK K
  refine pu2 42 87 (bl 64 0x7ffffffffff) HT_ ?_
  refine pu2 43 88 (bl 64 0xfffffffffff) HT_ ?_
  refine pu2 44 89 (bl 64 0x1fffffffffff) HT_ ?_
  refine ta2 45 90 (bl 64 0x3fffffffffff) HT_ HW_ hHeld ?_
  refine pu2 46 91 (bl 64 0x7fffffffffff) HT_ ?_
  refine ta2 47 92 (bl 64 0xffffffffffff) HT_ HW_ hHeld ?_
  refine ta2 48 93 (bl 64 0x1ffffffffffff) HT_ HW_ hHeld ?_
  refine pu2 53 98 (bl 64 0x21ffffffffffff) HT_ ?_
  refine ta2 54 99 (bl 64 0x61ffffffffffff) HT_ HW_ hHeld ?_
  refine pu2 55 100 (bl 64 0xe1ffffffffffff) HT_ ?_
  refine ta2 56 101 (bl 64 0x1e1ffffffffffff) HT_ HW_ hHeld ?_
  refine ta2 57 102 (bl 64 0x3e1ffffffffffff) HT_ HW_ hHeld ?_
  refine one_ (i := 49) (N := some 94) (bl 64 0x3e3ffffffffffff) rfl rfl (one_of HT_.out (by as_aux_lemma => kernel_rfl)) (by decide) (fun K hK => ?_)
  rw [if_pos (by as_aux_lemma => kernel_rfl)]
  go_simp
  (go_at_call 37; (with_reducible refine (at_w H37 _).mono ?_); rintro e1 v7 ⟨rfl, hb⟩; have Y7 := Aside0.mk (Y6.out.next hb); clear hb)
  refine hK.out _ _ (ops_s Y7.out) (fun hHeld => ?_)
  clear hK K
  refine pu2 50 95 (bl 64 0x3e7ffffffffffff) HT_ ?_
  refine pu2 51 96 (bl 64 0x3efffffffffffff) HT_ ?_
  refine one_ (i := 52) (N := some 97) (bl 64 0x3ffffffffffffff) rfl rfl (one_of HT_.out (by as_aux_lemma => kernel_rfl)) (by decide) (fun K hK => ?_)
  rw [if_pos (by as_aux_lemma => kernel_rfl)]
  go_simp
  (go_at_call 16; (with_reducible refine (one_calls M1 E1 c1 _).mono ?_); rintro e1 v8 ⟨gp1, gq1, rfl, hp, hq, hb⟩; have P1 := Aside0.mk hp; have Q1 := Aside0.mk hq; have Y8 := Aside0.mk (Y7.out.next hb); clear hb hp hq)
  refine hK.out _ _ (ops_s Y8.out) (fun hHeld => ?_)
  clear hK K
  refine one_ (i := 58) (N := some 103) (bl 64 0x7ffffffffffffff) rfl rfl (one_of HT_.out (by as_aux_lemma => kernel_rfl)) (by decide) (fun K hK => ?_)
  rw [if_pos (by as_aux_lemma => kernel_rfl)]
  go_simp
  (go_at_call 45; (with_reducible refine (at_w H45 _).mono ?_); rintro e1 v9 ⟨rfl, hb⟩; have Y9 := Aside0.mk (Y8.out.next hb); have P1b := Aside0.mk (blk_below P1.out hb); have Q1b := Aside0.mk (blk_below Q1.out hb); clear hb)
  refine hK.out _ _ (ops_s Y9.out) (fun hHeld => ?_)
  clear hK K
  refine pu2 59 104 (bl 64 0xfffffffffffffff) HT_ ?_
  refine pu2 60 105 (bl 64 0x1fffffffffffffff) HT_ ?_
  refine one_ (i := 61) (N := some 106) (bl 64 0x3fffffffffffffff) rfl rfl (one_of HT_.out (by as_aux_lemma => kernel_rfl)) (by decide) (fun K hK => ?_)
  rw [if_pos (by as_aux_lemma => kernel_rfl)]
  go_simp
  (go_at_call 49; (with_reducible refine (one1_yes gp1 gq1 M1 E1 c1 _ P1b.out Q1b.out).mono ?_); rintro e1 v10 ⟨rfl, hb⟩; have Y10 := Aside0.mk (Y9.out.next hb); clear hb P1 Q1 P1b Q1b)
  refine hK.out _ _ (ops_s Y10.out) (fun hHeld => ?_)
  clear hK K
  refine pu2 62 107 (bl 64 0x7fffffffffffffff) HT_ ?_
  refine pu2 63 6 (bl 64 0xffffffffffffffff) HT_ ?_
  refine done_ (done_of HT_.out (by kernel_rfl)) ?_
  go_wp2
  go_ret
  exact ⟨rfl, Y10.out.b⟩
theorem rlarger_is {m e n f : Int} (hm : I64 m) (hn : I64 n) (he : I64 e) (hf : I64 f) (hz : m ≠ 0) (hle : f ≤ e) : Ev (fun k => environref02_larger.f k m e n f) (cmpA m e n f) := by
  have hw : IntKind.u64.wrap (IntKind.u64.wrap e - IntKind.u64.wrap f) = e - f := by
    unfold I64 at he hf
    simp [IntKind.wrap, IntKind.signed, IntKind.bits]; omega
  have HW := Aside0.mk hw
  clear hw
  have hm2 : m.natAbs < 10 ^ 19 := by unfold I64 at hm; omega
  have hn2 : n.natAbs < 10 ^ 19 := by unfold I64 at hn; omega
  have dm : dg m.natAbs ≤ 19 := dg_le_iff.2 hm2
  have dn : dg n.natAbs ≤ 19 := dg_le_iff.2 hn2
  unfold cmpA
  by_cases h40 : e - f ≤ 40
  · have hd : Aside0 (wrap64 (e - f) = (((e - f).toNat : Nat) : Int)) := ⟨by rw [x64 (by omega) (by omega)]; omega⟩
    have hsh : environref02_shift.f (dl m.natAbs) (((e - f).toNat : Nat) : Int) = some (dl (m.natAbs * 10 ^ (e - f).toNat)) := shift_is (by omega) (by omega)
    have hdd : dg (m.natAbs * 10 ^ (e - f).toNat) ≤ 100 := by
      have h1 : 10 ^ (e - f).toNat ≤ 10 ^ 40 := Nat.pow_le_pow_right (by decide) (by omega)
      have h2 : m.natAbs * 10 ^ (e - f).toNat ≤ 10 ^ 19 * 10 ^ 40 := Nat.mul_le_mul (by omega) h1
      exact dg_le_iff.2 (Nat.lt_of_le_of_lt h2 (by decide))
    have hval : (if e - f > 19 then (1 : Int) else c3 (m.natAbs * 10 ^ (e - f).toNat) n.natAbs) = cmp (m.natAbs * 10 ^ (e - f).toNat) n.natAbs := by
      by_cases h19 : e - f > 19
      · rw [if_pos h19]
        have h1 : 10 ^ 20 ≤ 10 ^ (e - f).toNat := Nat.pow_le_pow_right (by decide) (by omega)
        have h2 : 1 * 10 ^ (e - f).toNat ≤ m.natAbs * 10 ^ (e - f).toNat := Nat.mul_le_mul_right _ (by omega)
        unfold cmp; rw [if_neg (by omega), if_neg (by omega)]
      · rw [if_neg h19]; rfl
    rw [hval]
    refine Ev.step (f := fun k => (environref02_Of.f k m).bind fun a => (environref02_shift.f a (((e - f).toNat : Nat) : Int)).bind fun b => (environref02_Of.f k n).bind fun c => (environref02_compare.f k b c).bind fun t => some t) (fun k => ?_) ?_
    · simp only [environref02_larger.f]; rw [if_neg (by omega), HW.out, if_pos h40, hd.out]
    · refine Ev.bind (of_is hm.1 hm.2) ?_
      simp only [hsh, Option.bind_some]
      exact Ev.bind (of_is hn.1 hn.2) (Ev.bind (cmp_is' (by rw [len_dl]; omega) (by rw [len_dl]; omega)) (Ev.now _))
  · rw [if_pos (by omega)]
    refine Ev.step (f := fun _ => some 1) (fun k => ?_) (Ev.now _)
    simp only [environref02_larger.f]; rw [if_neg (by omega), HW.out, if_neg h40]
theorem cmpA_or (m e n f : Int) : cmpA m e n f = -1 ∨ cmpA m e n f = 0 ∨ cmpA m e n f = 1 := by
  unfold cmpA c3; split
  · simp
  · split
    · simp
    · split <;> simp
theorem rcompare_is {m e n f : Int} (hm : I64 m) (hn : I64 n) (he : I64 e) (hf : I64 f) : Ev (fun k => environref02_Compare.f k m e n f) (cmpS m e n f) := by
  unfold environref02_Compare.f cmpS
  simp only [rsign_is, Option.bind_some]
  have h1 := sg3 m; have h2 := sg3 n
  by_cases hs : sg m = sg n
  · simp only [if_pos hs]
    rw [if_neg (by omega), if_neg (by omega)]
    by_cases h0 : sg m = 0
    · simp only [if_pos h0]; rw [if_pos (by omega)]; exact Ev.now _
    · simp only [if_neg h0]; rw [if_neg (by omega)]
      by_cases hef : e < f
      · rw [if_pos hef]
        have ha := cmpA_or n f m e
        have hl : Ev (fun k => environref02_larger.f k m e n f) (-(cmpA n f m e)) := by
          refine Ev.step (f := fun k => (environref02_larger.f k n f m e).bind fun t => some (wrap64 (-t))) (fun k => ?_) ?_
          · simp only [environref02_larger.f]; rw [if_pos hef]
          · refine Ev.bind (rlarger_is hn hm hf he (by omega) (by omega)) ?_
            rw [x64 (by omega) (by omega)]; exact Ev.now _
        refine Ev.bind hl ?_
        have e1 : wrap64 (sg m * -(cmpA n f m e)) = sg m * -1 * cmpA n f m e := by
          rcases h1 with h | h | h <;> rcases ha with a | a | a <;> rw [h.1, a] <;> exact x64 (by omega) (by omega)
        rw [e1]; exact Ev.now _
      · rw [if_neg hef]
        have ha := cmpA_or m e n f
        refine Ev.bind (rlarger_is hm hn he hf (by omega) (by omega)) ?_
        have e1 : wrap64 (sg m * cmpA m e n f) = sg m * 1 * cmpA m e n f := by
          rcases h1 with h | h | h <;> rcases ha with a | a | a <;> rw [h.1, a] <;> exact x64 (by omega) (by omega)
        rw [e1]; exact Ev.now _
  · simp only [if_neg hs]
    by_cases hl : sg m < sg n
    · simp only [if_pos hl]; exact Ev.now _
    · simp only [if_neg hl]; rw [if_pos (by omega)]; exact Ev.now _
theorem rleng_is (s m e : Int) (hm : I64 m) : Ev (fun k => environref02_Leng.f k s m e) (lengS s m e) := by
  unfold environref02_Leng.f lengS
  by_cases h1 : s = 1
  · simp only [if_pos h1]; exact Ev.now _
  · simp only [if_neg h1]
    rw [← ok_zero]
    refine ref_op s 0 m e 0 0 hm ⟨by decide, by decide⟩ _ ?_ ?_
    · intro hs _ _ _ _; simp only [if_true]; exact Ev.now _
    · intro k t ht; rw [if_neg ht]
theorem rshorten_is (s how m e : Int) (hm : I64 m) : Ev (fun k => environref02_Shorten.f k s how m e) (shortenS s how m e) := by
  unfold environref02_Shorten.f shortenS
  by_cases h1 : s = -1
  · simp only [if_pos h1]; exact Ev.now _
  · simp only [if_neg h1]
    rw [← ok_zero]
    refine ref_op s how m e 0 0 hm ⟨by decide, by decide⟩ _ ?_ ?_
    · intro hs h0 h3 ho _
      have hp := pd_of hs
      have b1 := okB_bd ho (by omega)
      have hs2 : s = 0 ∨ s = 1 := by rcases sizes_of hs with h | h | h; exact absurd h h1; exact .inl h; exact .inr h
      have hs3 : Aside0 (er (s - 1) = 0 ∧ wrap64 (s - 1) = s - 1) := ⟨⟨by rcases hs2 with rfl | rfl <;> rfl, x64 (by omega) (by omega)⟩⟩
      have hr := rounded_is hs3.out.1 how h0 h3 (decide (m < 0)) m.natAbs e false (.inr rfl) (by omega) (by omega) (by omega)
      simp only [if_true, hs3.out.2]
      exact Ev.bind (exactly_is m e hm.1 hm.2) (Ev.bind hr (Ev.now (flat _)))
    · intro k t ht; rw [if_neg ht]
theorem realsIntegers_walk (s h xm xe ym ye : Int) (w : World) (_w0 : (Lit.int .i64 s).wf = true) (_w1 : (Lit.int .i64 h).wf = true) (w2 : (Lit.int .i64 xm).wf = true) (w3 : (Lit.int .i64 xe).wf = true) (w4 : (Lit.int .i64 ym).wf = true) (w5 : (Lit.int .i64 ye).wf = true) :
    Calls Try.prog 10 #[.agg #[.int .i64 s, .int .i64 h], .agg #[.int .i64 xm, .int .i64 xe], .agg #[.int .i64 ym, .int .i64 ye]] w fun e w' => e = .returned (.bool true) ∧ Below w.heap.size w w' := by
  have hx := wf64 w2; have hy := wf64 w4; have hxe := wf64 w3; have hye := wf64 w5
  rcases h1 : intS s xm xe (entG xm) with ⟨A, ca⟩
  rcases h2 : intS s xm xe (rouG xm) with ⟨B, cb⟩
  rcases h3 : lengS s xm xe with ⟨M0, E0, c0⟩
  rcases h4 : shortenS s h xm xe with ⟨M1, E1, c1⟩
  obtain ⟨k1, g1⟩ := (rent_is s xm xe hx).rounds
  obtain ⟨k2, g2⟩ := (rrou_is s xm xe hx).rounds
  obtain ⟨k3, g3⟩ := (rcompare_is hx hy hxe hye).rounds
  obtain ⟨k4, g4⟩ := (rleng_is s xm xe hx).rounds
  obtain ⟨k5, g5⟩ := (rshorten_is s h xm xe hx).rounds
  rw [h1] at g1; rw [h2] at g2; rw [h3] at g4; rw [h4] at g5
  exact ints_walk s h xm xe ym ye A ca B cb _ M0 E0 c0 M1 E1 c1 w awake_ret (ent_ret hx h1) (ret_b fun w => environref02_Entier.calls k1 s xm xe A ca w g1) (rou_ret hx h2) (ret_b fun w => environref02_Round.calls k2 s xm xe B cb w g2)
    (compare_ret xm xe ym ye hx hy hxe hye) (ret_b fun w => environref02_Compare.calls k3 xm xe ym ye _ w g3) (leng_ret hx h3) (ret_b fun w => environref02_Leng.calls k4 s xm xe M0 E0 c0 w g4) (shorten_ret hx h4) (ret_b fun w => environref02_Shorten.calls k5 s h xm xe M1 E1 c1 w g5)
end Go.Proofs.Ytamkjpjibkabaaa.PR
