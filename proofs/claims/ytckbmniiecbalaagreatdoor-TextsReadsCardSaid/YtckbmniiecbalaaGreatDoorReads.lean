import Derived.Test.YtckbmniiecbalaaGreatDoorPTgRd
import Derived.Test.YtckbmniiecbalaaGreatDoorPTgRc
import Derived.Test.YtckbmniiecbalaaGreatDoorPTgRb
import Derived.Test.YtckbmniiecbalaaGreatDoorPTgRa
import Derived.Test.YtckbmniiecbalaaGreatDoorPTgE
import Derived.Test.YtckbmniiecbalaaGreatDoorPTgD
import Derived.Test.YtckbmniiecbalaaGreatDoorPTgC
import Derived.Test.YtckbmniiecbalaaGreatDoorPTgA
import Derived.Test.YtckbmniiecbalaaGreatDoorPTgSl
import Derived.Test.YtckbmniiecbalaaGreatDoorPTgSk
import Derived.Test.YtckbmniiecbalaaGreatDoorPTgSj
import Derived.Test.YtckbmniiecbalaaGreatDoorPTgSi
import Derived.Test.YtckbmniiecbalaaGreatDoorPTgTm
import Derived.Test.YtckbmniiecbalaaGreatDoorPTgTl
import Derived.Test.YtckbmniiecbalaaGreatDoorPTgTh
import Derived.Test.YtckbmniiecbalaaGreatDoorPTgTg
import Derived.Test.YtckbmniiecbalaaGreatDoorPTgTf
import Derived.Test.YtckbmniiecbalaaGreatDoorPTgTe
namespace Go.Proofs.YtckbmniiecbalaaGreatDoor.PT.Rr
open Go.RowKit Go.Proofs.YtckbmniiecbalaaGreatDoorW.PrintWords Go.Proofs.YtckbmniiecbalaaGreatDoorW.PrintLast Go.Proofs.YtckbmniiecbalaaGreatDoorW.PrintMore
set_option linter.unusedVariables false
set_option linter.unusedSimpArgs false
def dl (n : Nat) : List Int := if h : n = 0 then [] else ((n % 10 : Nat) : Int) :: dl (n / 10)
decreasing_by omega
theorem dl_zero : dl 0 = [] := by unfold dl; simp
theorem dl_pos {n : Nat} (h : n ≠ 0) : dl n = ((n % 10 : Nat) : Int) :: dl (n / 10) := by rw [dl]; simp [h]
def vl : List Int → Nat | [] => 0 | d :: l => d.toNat + 10 * vl l
def Dg (l : List Int) : Prop := ∀ d ∈ l, 0 ≤ d ∧ d < 10
theorem Dg.nil : Dg [] := fun _ h => by cases h
theorem Dg.cons {d : Int} {l : List Int} (h0 : 0 ≤ d) (h1 : d < 10) (h : Dg l) : Dg (d :: l) := by
 intro x hx; rcases List.mem_cons.1 hx with rfl | hx
 ·exact ⟨h0, h1⟩
 ·exact h x hx
theorem Dg.tail {d : Int} {l : List Int} (h : Dg (d :: l)) : Dg l := fun x hx => h x (List.mem_cons_of_mem _ hx)
theorem Dg.head {d : Int} {l : List Int} (h : Dg (d :: l)) : 0 ≤ d ∧ d < 10 := h d (List.mem_cons_self ..)
theorem Dg.append {a b : List Int} (ha : Dg a) (hb : Dg b) : Dg (a ++ b) := by
 intro x hx; rcases List.mem_append.1 hx with h | h
 ·exact ha x h
 ·exact hb x h
theorem Dg.take {a : List Int} (ha : Dg a) (k : Nat) : Dg (a.take k) := fun x hx => ha x (List.mem_of_mem_take hx)
theorem Dg.drop {a : List Int} (ha : Dg a) (k : Nat) : Dg (a.drop k) := fun x hx => ha x (List.mem_of_mem_drop hx)
theorem vl_dl (n : Nat) : vl (dl n) = n := by
 induction n using Nat.strongRecOn with
 | ind n ih =>
  by_cases h : n = 0
  ·subst h; rw [dl_zero]; rfl
  ·rw [dl_pos h]; simp only [vl]; rw [ih (n / 10) (by omega)]; omega
theorem dg_dl (n : Nat) : Dg (dl n) := by
 induction n using Nat.strongRecOn with
 | ind n ih =>
  by_cases h : n = 0
  ·subst h; rw [dl_zero]; exact Dg.nil
  ·rw [dl_pos h]; exact Dg.cons (by omega) (by omega) (ih (n / 10) (by omega))
theorem len_dl (n : Nat) : (dl n).length = dg n := by
 induction n using Nat.strongRecOn with
 | ind n ih =>
  by_cases h : n = 0
  ·subst h; rw [dl_zero, dg_zero]; rfl
  ·rw [dl_pos h, dg_pos h, List.length_cons, ih (n / 10) (by omega)]
theorem vl_append (a b : List Int) : vl (a ++ b) = vl a + 10 ^ a.length * vl b := by
 induction a with
 | nil => simp [vl]
 | cons d a ih => simp only [List.cons_append, vl, ih, List.length_cons, Nat.pow_succ, Nat.mul_add]; rw [← Nat.mul_assoc, Nat.mul_comm 10 (10 ^ _)]; omega
theorem dl_of {l : List Int} (h : Dg l) (hl : ∀ x, l.getLast? = some x → x ≠ 0) : l = dl (vl l) := by
 induction l with
 | nil => rw [vl, dl_zero]
 | cons d l ih =>
  have hd := h.head
  have hz : vl (d :: l) ≠ 0 := by
   intro h0
   simp only [vl] at h0
   have hd0 : d = 0 := by omega
   have hv0 : vl l = 0 := by omega
   cases l with
   | nil => exact hl d rfl hd0
   | cons e m =>
    have h' := ih h.tail (fun x hx => hl x (by rw [List.getLast?_cons_cons]; exact hx))
    rw [hv0, dl_zero] at h'; cases h'
  rw [dl_pos hz]
  have e1 : vl (d :: l) % 10 = d.toNat := by simp only [vl]; omega
  have e2 : vl (d :: l) / 10 = vl l := by simp only [vl]; omega
  rw [e1, e2]
  cases l with
  | nil => simp [vl, dl_zero]; omega
  | cons e m =>
   rw [← ih h.tail (fun x hx => hl x (by rw [List.getLast?_cons_cons]; exact hx))]
   congr 1; omega
theorem dl_drop (k n : Nat) : (dl n).drop k = dl (n / 10 ^ k) := by
 induction k generalizing n with
 | zero => simp
 | succ k ih =>
  by_cases h : n = 0
  ·subst h; simp [dl_zero]
  ·rw [dl_pos h, List.drop_succ_cons, ih, Nat.div_div_eq_div_mul, Nat.pow_succ, Nat.mul_comm 10]
theorem vl_take (k n : Nat) : vl ((dl n).take k) = n % 10 ^ k := by
 induction k generalizing n with
 | zero => simp [vl, Nat.mod_one]
 | succ k ih =>
  by_cases h : n = 0
  ·subst h; simp [dl_zero, vl]
  ·rw [dl_pos h, List.take_succ_cons, vl, ih, Nat.pow_succ, Nat.mul_comm (10 ^ k), Nat.mod_mul]
   omega
theorem dl_get {n i : Nat} (h : i < (dl n).length) : (dl n)[i] = ((n / 10 ^ i % 10 : Nat) : Int) := by
 have e := dl_drop i n
 rw [List.drop_eq_getElem_cons h] at e
 by_cases hz : n / 10 ^ i = 0
 ·rw [hz, dl_zero] at e; cases e
 ·rw [dl_pos hz] at e; exact (List.cons.inj e).1
theorem dl_len_le {n i : Nat} (h : (dl n).length ≤ i) : n / 10 ^ i = 0 := by
 have e := dl_drop i n
 rw [List.drop_eq_nil_of_le h] at e
 have := vl_dl (n / 10 ^ i); rw [← e] at this; exact this.symm
theorem vl_snoc (l : List Int) (d : Int) : vl (l ++ [d]) = vl l + 10 ^ l.length * d.toNat := by rw [vl_append]; simp [vl]
theorem dg_one : dg 1 = 1 := by rw [dg_pos (by decide), show 1 / 10 = 0 from rfl, dg_zero]
theorem p10 (k : Nat) : 0 < 10 ^ k := Nat.pow_pos (by decide)
theorem dg_le_iff {n k : Nat} : dg n ≤ k ↔ n < 10 ^ k := by
 constructor
 ·intro h; exact Nat.lt_of_lt_of_le (dg_lt n) (Nat.pow_le_pow_right (by decide) h)
 ·intro h
  by_cases hz : n = 0
  ·subst hz; rw [dg_zero]; omega
  ·have := Nat.lt_of_le_of_lt (dg_le hz) h
   have := (Nat.pow_lt_pow_iff_right (show 1 < 10 by decide)).1 this
   omega
theorem dg_mul {n : Nat} (h : n ≠ 0) (k : Nat) : dg (n * 10 ^ k) = dg n + k := by
 have hd : dg n ≠ 0 := by have := dg_pos h; omega
 refine dg_is ?_ (.inr ?_)
 ·rw [Nat.pow_add]; exact Nat.mul_lt_mul_of_pos_right (dg_lt n) (p10 k)
 ·have : dg n + k - 1 = dg n - 1 + k := by omega
  rw [this, Nat.pow_add]; exact Nat.mul_le_mul_right _ (dg_le h)
theorem dg_add {n k s : Nat} (h : n ≠ 0) (hs : s < 10 ^ k) : dg (n * 10 ^ k + s) = dg n + k := by
 have hd : dg n ≠ 0 := by have := dg_pos h; omega
 refine dg_is ?_ (.inr ?_)
 ·rw [Nat.pow_add]
  have h1 : (n + 1) * 10 ^ k ≤ 10 ^ dg n * 10 ^ k := Nat.mul_le_mul_right _ (dg_lt n)
  rw [Nat.add_mul, Nat.one_mul] at h1; omega
 ·have : dg n + k - 1 = dg n - 1 + k := by omega
  rw [this, Nat.pow_add]; have := Nat.mul_le_mul_right (10 ^ k) (dg_le h); omega
theorem dg_div (n k : Nat) : dg (n / 10 ^ k) = dg n - k := by
 by_cases hz : n / 10 ^ k = 0
 ·rw [hz, dg_zero]
  have : n < 10 ^ k := by
   rcases Nat.div_eq_zero_iff.1 hz with h | h
   ·have := p10 k; omega
   ·exact h
  have := dg_le_iff.2 this; omega
 ·have e := Nat.div_add_mod n (10 ^ k)
  have hm := Nat.mod_lt n (p10 k)
  have := dg_add hz hm
  rw [Nat.mul_comm] at e
  rw [e] at this; omega
def sdS (r m : Nat) (more : Bool) : Int := if r = m - r then (if more = true then 1 else 0) else if r < m - r then -1 else 1
def cutG (n d : Nat) (more : Bool) : Nat × Int × Bool := if d = 0 then (n, -1, more) else (n / 10 ^ d, sdS (n % 10 ^ d) (10 ^ d) more, more || decide (n % 10 ^ d ≠ 0))
def awayS (how : Int) (neg odd : Bool) (half : Int) (inexact : Bool) : Bool := if how = 0 then decide (half > 0) || (decide (half = 0) && odd) else if how = 1 then !neg && inexact else if how = 2 then neg && inexact else false
def strip (n : Nat) (e : Int) : Nat × Int := if h : n = 0 then (0, 0) else if n % 10 = 0 then strip (n / 10) (e + 1) else (n, e)
decreasing_by omega
def sgn (neg : Bool) (n : Nat) : Int := if neg = true then -(n : Int) else n
def real (neg : Bool) (x : Nat × Int) : (Int × Int) × Int := ((sgn neg x.1, x.2), 0)
def fin (p : Nat) (how : Int) (neg : Bool) (q : Nat) (t : Int) : (Int × Int) × Int :=
 if q = 0 then ((0, 0), 0) else if dg q + t > p + 400 then (if how = 0 ∨ how = 1 ∧ neg = false ∨ how = 2 ∧ neg = true then ((0, 0), 11) else real neg (10 ^ p - 1, 400)) else real neg (strip q t)
def dropS (p n : Nat) (e : Int) : Nat := max (dg n - p) (-400 - e).toNat
def up (how : Int) (neg : Bool) (c : Nat × Int × Bool) : Nat := c.1 + if awayS how neg (decide (c.1 % 2 = 1)) c.2.1 c.2.2 = true then 1 else 0
def rnd (p : Nat) (how : Int) (neg : Bool) (n : Nat) (e : Int) (more : Bool) : (Int × Int) × Int := fin p how neg (up how neg (cutG n (dropS p n e) more)) (e + dropS p n e)
theorem strip_mul (n : Nat) (e : Int) (k : Nat) : strip (n * 10 ^ k) (e - k) = strip n e := by
 by_cases hz : n = 0
 ·subst hz; rw [Nat.zero_mul]; unfold strip; simp
 ·induction k generalizing e with
  | zero => simp
  | succ k ih =>
   rw [strip]
   have h0 : n * 10 ^ (k + 1) ≠ 0 := Nat.mul_ne_zero hz (by have := p10 (k + 1); omega)
   have h1 : n * 10 ^ (k + 1) % 10 = 0 := by rw [Nat.pow_succ, ← Nat.mul_assoc]; exact Nat.mul_mod_left _ _
   have h2 : n * 10 ^ (k + 1) / 10 = n * 10 ^ k := by rw [Nat.pow_succ, ← Nat.mul_assoc]; exact Nat.mul_div_cancel _ (by decide)
   rw [dif_neg h0, if_pos h1, h2, show e - ((k + 1 : Nat) : Int) + 1 = e - k by omega]
   exact ih e
theorem strip_ten (p : Nat) (t : Int) : strip (10 ^ p) t = (1, t + p) := by
 have h := strip_mul 1 (t + p) p
 rw [Nat.one_mul, show t + p - p = t by omega] at h
 rw [h]; unfold strip; simp
theorem cut_exact (n k : Nat) (d : Nat) (h : d ≤ k) : cutG (n * 10 ^ k) d false = (n * 10 ^ (k - d), -1, false) := by
 unfold cutG
 split
 ·rename_i hd; subst hd; simp
 ·have e : 10 ^ k = 10 ^ (k - d) * 10 ^ d := by rw [← Nat.pow_add]; congr 1; omega
  have hp := p10 d
  rw [e, ← Nat.mul_assoc, Nat.mul_mod_left, Nat.mul_div_cancel _ hp]
  unfold sdS; rw [if_neg (by omega), if_pos (by omega)]; simp
theorem up_exact (how : Int) (neg : Bool) (q : Nat) : up how neg (q, -1, false) = q := by
 unfold up awayS; simp
theorem fin_mul (p : Nat) (how : Int) (neg : Bool) (n : Nat) (t : Int) (k : Nat) : fin p how neg (n * 10 ^ k) (t - k) = fin p how neg n t := by
 by_cases hz : n = 0
 ·subst hz; unfold fin; simp
 ·unfold fin
  have h0 : n * 10 ^ k ≠ 0 := Nat.mul_ne_zero hz (by have := p10 k; omega)
  rw [if_neg h0, if_neg hz, dg_mul hz, strip_mul]
  congr 1
  simp only [eq_iff_iff]; omega
theorem up_le (how : Int) (neg : Bool) (n d : Nat) (more : Bool) : n / 10 ^ d ≤ up how neg (cutG n d more) ∧ up how neg (cutG n d more) ≤ n / 10 ^ d + 1 := by
 unfold up cutG
 split
 ·rename_i h; subst h; rw [Nat.pow_zero, Nat.div_one]; simp only; split <;> omega
 ·simp only; split <;> omega
theorem drop_lt (p n : Nat) (e : Int) : n / 10 ^ dropS p n e < 10 ^ p := by
 rw [← dg_le_iff, dg_div]; unfold dropS; omega
theorem up_lt (p : Nat) (how : Int) (neg : Bool) (n : Nat) (e : Int) (more : Bool) : up how neg (cutG n (dropS p n e) more) ≤ 10 ^ p := by
 have := up_le how neg n (dropS p n e) more
 have := drop_lt p n e
 omega
def finP (p : Nat) (how : Int) (neg : Bool) (q : Nat) (t : Int) : (Int × Int) × Int :=
 let q1 := if dg q > p then q / 10 else q
 let t1 := if dg q > p then t + 1 else t
 if q1 = 0 then ((0, 0), 0) else if dg q1 + max (t1 - 400) 0 > p then (if how = 0 ∨ how = 1 ∧ neg = false ∨ how = 2 ∧ neg = true then ((0, 0), 11) else real neg (10 ^ p - 1, 400)) else real neg (strip q1 t1)
theorem finP_is {p : Nat} (hp : p ≠ 0) (how : Int) (neg : Bool) {q : Nat} (hq : q ≤ 10 ^ p) (t : Int) : finP p how neg q t = fin p how neg q t := by
 unfold finP fin
 by_cases h : dg q > p
 ·have h1 : ¬ q < 10 ^ p := fun h' => by have := dg_le_iff.2 h'; omega
  obtain rfl : q = 10 ^ p := by omega
  have e1 : dg (10 ^ p) = p + 1 := by have := dg_mul (n := 1) (by decide) p; rw [Nat.one_mul] at this; rw [this, dg_one]; omega
  have e2 : 10 ^ p / 10 = 10 ^ (p - 1) := by
   have : p = p - 1 + 1 := by omega
   rw [this, Nat.pow_succ, Nat.add_sub_cancel]; omega
  have e3 : dg (10 ^ (p - 1)) = p := by
   have := dg_mul (n := 1) (by decide) (p - 1); rw [Nat.one_mul] at this; rw [this, dg_one]; omega
  have z1 := p10 (p - 1)
  have z2 := p10 p
  simp only [if_pos h, e2]
  rw [if_neg (Nat.ne_of_gt z1), if_neg (Nat.ne_of_gt z2), e1, e3, strip_ten, strip_ten]
  have e4 : t + 1 + ((p - 1 : Nat) : Int) = t + p := by omega
  rw [e4]
  congr 1
  simp only [eq_iff_iff]; omega
 ·simp only [if_neg h]
  by_cases hz : q = 0
  ·rw [if_pos hz, if_pos hz]
  ·rw [if_neg hz, if_neg hz]
   congr 1
   simp only [eq_iff_iff]; omega
theorem strip_ok {n : Nat} {e : Int} (h : n = 0 → e = 0) (h2 : n ≠ 0 → n % 10 ≠ 0) : strip n e = (n, e) := by
 unfold strip
 by_cases hz : n = 0
 ·rw [dif_pos hz, hz, h hz]
 ·rw [dif_neg hz, if_neg (h2 hz)]
theorem strip_val (n : Nat) (e : Int) (h : n ≠ 0) : ∃ k : Nat, n = (strip n e).1 * 10 ^ k ∧ (strip n e).2 = e + k ∧ (strip n e).1 % 10 ≠ 0 := by
 induction n using Nat.strongRecOn generalizing e with
 | ind n ih =>
  rw [strip, dif_neg h]
  by_cases h1 : n % 10 = 0
  ·rw [if_pos h1]
   obtain ⟨k, a, b, c⟩ := ih (n / 10) (by omega) (e + 1) (by omega)
   refine ⟨k + 1, ?_, by rw [b]; omega, c⟩
   rw [Nat.pow_succ, ← Nat.mul_assoc, ← a]; omega
  ·rw [if_neg h1]; exact ⟨0, by simp, by simp, h1⟩
theorem x64 {n : Int} (h : -9223372036854775808 ≤ n) (h' : n ≤ 9223372036854775807) : wrap64 n = n := by
 unfold wrap64; omega
theorem rd_dl {n i : Nat} (h : i < (dl n).length) : rd (dl n) (i : Int) = ((n / 10 ^ i % 10 : Nat) : Int) := by
 unfold rd; rw [Int.toNat_natCast, List.getD_eq_getElem?_getD, List.getElem?_eq_getElem h]; exact dl_get h
theorem rd_nat (l : List Int) (i : Nat) : rd l (i : Int) = l.getD i 0 := by unfold rd; rw [Int.toNat_natCast]
theorem trim_l0 : ∀ (n : Nat) (l : List Int), l.length = n → n ≤ 1000000 → Dg l → Ev (fun k => environref02_trim.l0 k l) (dl (vl l)) := by
 intro n
 induction n with
 | zero =>
  intro l hl _ _
  obtain rfl : l = [] := List.eq_nil_of_length_eq_zero hl
  refine Ev.step (f := fun _ => some []) (fun k => ?_) (by rw [vl, dl_zero]; exact Ev.now _)
  simp only [environref02_trim.l0]; rw [if_neg (by simp)]
 | succ n ih =>
  intro l hl hn hd
  have hw : Aside0 (wrap64 ((l.length : Int) - 1) = (n : Int)) := ⟨by rw [x64 (by omega) (by omega)]; omega⟩
  have hlast : l.getLast? = some (l[n]'(by omega)) := by rw [List.getLast?_eq_getElem?, List.getElem?_eq_getElem (by omega)]; congr 1; simp [hl]
  have hrd : rd l (n : Int) = l[n]'(by omega) := by rw [rd_nat, List.getD_eq_getElem?_getD, List.getElem?_eq_getElem (by omega)]; rfl
  by_cases h0 : l[n]'(by omega) = 0
  ·have ht : vl l = vl (l.take n) := by
    have e : l = l.take n ++ [0] := by
     have := List.take_succ_eq_append_getElem (l := l) (i := n) (by omega)
     rw [List.take_of_length_le (by omega), h0] at this; exact this
    have h2 := congrArg vl e
    rw [vl_snoc] at h2; rw [h2]; simp
   refine Ev.step (f := fun k => environref02_trim.l0 k (l.take n)) (fun k => ?_) (by rw [ht]; exact ih (l.take n) (by rw [List.length_take]; omega) (by omega) (hd.take n))
   simp only [environref02_trim.l0]; rw [hw.out, hrd, if_pos (by omega), if_pos (by omega), if_pos (by omega), if_pos h0, if_pos (by omega), Int.toNat_natCast]
  ·refine Ev.step (f := fun _ => some l) (fun k => ?_) ?_
   ·simp only [environref02_trim.l0]; rw [hw.out, hrd, if_pos (by omega), if_pos (by omega), if_pos (by omega), if_neg h0]
   ·rw [← dl_of hd (fun x hx => by rw [hlast] at hx; cases hx; exact h0)]; exact Ev.now _
theorem trim_is {l : List Int} (hl : l.length ≤ 1000000) (hd : Dg l) : Ev (fun k => environref02_trim.f k l) (dl (vl l)) := trim_l0 _ l rfl hl hd
theorem of_l0 : ∀ (n : Nat) (m : Int) (x : List Int), m.natAbs = n → n ≤ 9223372036854775808 → m ≤ 9223372036854775807 → x.length + dg n ≤ 1000000 → Ev (fun k => environref02_Of.l0 k m x) (x ++ dl n) := by
 intro n
 induction n using Nat.strongRecOn with
 | ind n ih =>
  intro m x hm hn hn2 hx
  by_cases h0 : m = 0
  ·subst h0
   obtain rfl : n = 0 := by omega
   rw [dl_zero, List.append_nil]
   refine Ev.step (f := fun _ => some x) (fun k => ?_) (Ev.now _)
   simp only [environref02_Of.l0]; rw [if_pos trivial]
  ·have hz : n ≠ 0 := by omega
   have hdp := dg_pos hz
   have e1 : Int.tdiv m 10 = if m < 0 then -((n / 10 : Nat) : Int) else ((n / 10 : Nat) : Int) := by
    split
    ·have : m = -((n : Nat) : Int) := by omega
     rw [this, Int.neg_tdiv, Int.tdiv_eq_ediv_of_nonneg (by omega)]; omega
    ·have : m = ((n : Nat) : Int) := by omega
     rw [this, Int.tdiv_eq_ediv_of_nonneg (by omega)]; omega
   have e2 : Int.tmod m 10 = if m < 0 then -((n % 10 : Nat) : Int) else ((n % 10 : Nat) : Int) := by
    split
    ·have : m = -((n : Nat) : Int) := by omega
     rw [this, Int.neg_tmod, Int.tmod_eq_emod_of_nonneg (by omega)]; omega
    ·have : m = ((n : Nat) : Int) := by omega
     rw [this, Int.tmod_eq_emod_of_nonneg (by omega)]; omega
   have hw : Aside0 (wrap64 (Int.tdiv m 10) = Int.tdiv m 10) := ⟨x64 (by rw [e1]; split <;> omega) (by rw [e1]; split <;> omega)⟩
   have hr : x ++ dl n = (x ++ [((n % 10 : Nat) : Int)]) ++ dl (n / 10) := by rw [dl_pos hz, List.append_assoc]; rfl
   rw [hr]
   refine Ev.step (f := fun k => environref02_Of.l0 k (Int.tdiv m 10) (x ++ [((n % 10 : Nat) : Int)])) (fun k => ?_) (ih (n / 10) (by omega) _ _ (by rw [e1]; split <;> omega) (by omega) (by rw [e1]; split <;> omega) (by rw [List.length_append, List.length_singleton]; omega))
   simp only [environref02_Of.l0]
   rw [if_neg h0, hw.out]
   by_cases hneg : Int.tmod m 10 < 0
   ·rw [if_pos hneg, if_pos (by omega)]
    rw [e2] at hneg ⊢
    split at hneg
    ·rename_i hm0; rw [if_pos hm0, Int.neg_neg, x64 (by omega) (by omega)]
    ·omega
   ·rw [if_neg hneg, if_pos (by omega)]
    rw [e2] at hneg ⊢
    split at hneg
    ·rename_i hm0; rw [if_pos hm0]; have : n % 10 = 0 := by omega
     rw [this]; rfl
    ·rename_i hm0; rw [if_neg hm0]
theorem dg_small {n : Nat} (h : n ≤ 340282366920938463463374607431768211456) : dg n ≤ 39 := by
 have : n < 10 ^ 39 := by omega
 by_cases hz : n = 0
 ·subst hz; rw [dg_zero]; omega
 ·have := Nat.lt_of_le_of_lt (dg_le hz) this
  have := (Nat.pow_lt_pow_iff_right (show 1 < 10 by decide)).1 this
  omega
theorem of_is {m : Int} (h : -9223372036854775808 ≤ m) (h' : m ≤ 9223372036854775807) : Ev (fun k => environref02_Of.f k m) (dl m.natAbs) := by
 have := dg_small (n := m.natAbs) (by omega)
 have h := of_l0 m.natAbs m [] rfl (by omega) h' (by simp; omega)
 rw [List.nil_append] at h; exact h
def cmp (a b : Nat) : Int := if a = b then 0 else if a < b then -1 else 1
theorem cmp_l0 (a b : Nat) (hl : (dl a).length = (dl b).length) (hs : (dl a).length ≤ 1000000) : ∀ j : Nat, j ≤ (dl a).length → a / 10 ^ j = b / 10 ^ j → Ev (fun k => environref02_compare.l0 k (dl a) (dl b) ((j : Int) - 1)) (cmp a b) := by
 intro j
 induction j with
 | zero =>
  intro _ h
  rw [Nat.pow_zero, Nat.div_one, Nat.div_one] at h
  subst h
  refine Ev.step (f := fun _ => some 0) (fun k => ?_) (by unfold cmp; rw [if_pos rfl]; exact Ev.now _)
  simp only [environref02_compare.l0]; rw [if_neg (by omega)]
 | succ j ih =>
  intro hj h
  have e : ((j + 1 : Nat) : Int) - 1 = (j : Int) := by omega
  rw [e]
  have ra := rd_dl (n := a) (i := j) (by omega)
  have rb := rd_dl (n := b) (i := j) (by omega)
  rw [Nat.pow_succ, ← Nat.div_div_eq_div_mul, ← Nat.div_div_eq_div_mul] at h
  generalize hA : a / 10 ^ j = A at *
  generalize hB : b / 10 ^ j = B at *
  by_cases h1 : A % 10 < B % 10
  ·have hab : a < b := by
    have : A < B := by omega
    rw [← hA, ← hB] at this
    exact Nat.lt_of_not_le fun hle => by have := Nat.div_le_div_right (c := 10 ^ j) hle; omega
   refine Ev.step (f := fun _ => some (-1)) (fun k => ?_) (by unfold cmp; rw [if_neg (by omega), if_pos hab]; exact Ev.now _)
   simp only [environref02_compare.l0]; rw [if_pos (by omega), if_pos (by omega), if_pos (by omega), if_pos (by omega), ra, rb, if_pos (by omega)]
  ·by_cases h2 : B % 10 < A % 10
   ·have hab : b < a := by
     have : B < A := by omega
     rw [← hA, ← hB] at this
     exact Nat.lt_of_not_le fun hle => by have := Nat.div_le_div_right (c := 10 ^ j) hle; omega
    refine Ev.step (f := fun _ => some 1) (fun k => ?_) (by unfold cmp; rw [if_neg (by omega), if_neg (by omega)]; exact Ev.now _)
    simp only [environref02_compare.l0]; rw [if_pos (by omega), if_pos (by omega), if_pos (by omega), if_pos (by omega), ra, rb, if_neg (by omega), if_pos (by omega)]
   ·refine Ev.step (f := fun k => environref02_compare.l0 k (dl a) (dl b) ((j : Int) - 1)) (fun k => ?_) (ih (by omega) (by omega))
    simp only [environref02_compare.l0]; rw [if_pos (by omega), if_pos (by omega), if_pos (by omega), if_pos (by omega), ra, rb, if_neg (by omega), if_neg (by omega), x64 (by omega) (by omega)]
theorem dl_lt_of_len {a b : Nat} (h : (dl a).length < (dl b).length) : a < b := by
 have h1 := dl_len_le (n := a) (Nat.le_refl _)
 have hb : b ≠ 0 := by rintro rfl; rw [dl_zero] at h; simp at h
 have h2 : b / 10 ^ (dl a).length ≠ 0 := by
  intro h0
  have := dl_drop (dl a).length b
  rw [h0, dl_zero] at this
  have := congrArg List.length this
  rw [List.length_drop, List.length_nil] at this; omega
 refine Nat.lt_of_not_le fun hle => ?_
 have := Nat.div_le_div_right (c := 10 ^ (dl a).length) hle
 rw [h1] at this; exact h2 (Nat.le_zero.1 this)
theorem cmp_is' {a b : Nat} (ha : (dl a).length ≤ 1000000) (hb : (dl b).length ≤ 1000000) : Ev (fun k => environref02_compare.f k (dl a) (dl b)) (cmp a b) := by
 by_cases hl : (dl a).length = (dl b).length
 ·have h := cmp_l0 a b hl ha (dl a).length (Nat.le_refl _) (by rw [dl_len_le (Nat.le_refl _), dl_len_le (by omega)])
  refine Ev.congr (fun k => ?_) h
  unfold environref02_compare.f
  rw [if_pos (by omega), x64 (by omega) (by omega)]
 ·by_cases h2 : (dl a).length < (dl b).length
  ·have := dl_lt_of_len h2
   refine Ev.congr (f := fun _ => some (-1)) (fun k => ?_) (by unfold cmp; rw [if_neg (by omega), if_pos this]; exact Ev.now _)
   unfold environref02_compare.f; rw [if_neg (by omega), if_pos (by omega)]
  ·have := dl_lt_of_len (a := b) (b := a) (by omega)
   refine Ev.congr (f := fun _ => some 1) (fun k => ?_) (by unfold cmp; rw [if_neg (by omega), if_neg (by omega)]; exact Ev.now _)
   unfold environref02_compare.f; rw [if_neg (by omega), if_neg (by omega)]
theorem dl_lt_iff {a i : Nat} : i < (dl a).length ↔ a / 10 ^ i ≠ 0 := by
 constructor
 ·intro h h0
  have := dl_drop i a
  rw [h0, dl_zero] at this
  have := congrArg List.length this
  rw [List.length_drop, List.length_nil] at this; omega
 ·intro h
  exact Nat.lt_of_not_le fun hle => h (dl_len_le hle)
theorem div_succ (a i : Nat) : a / 10 ^ (i + 1) = a / 10 ^ i / 10 := by rw [Nat.pow_succ, Nat.div_div_eq_div_mul]
theorem plus_l0 (a b : Nat) (ha : (dl a).length ≤ 1000000) (hb : (dl b).length ≤ 1000000) : ∀ (A : Nat) (i c : Nat) (out : List Int), A = c + a / 10 ^ i + b / 10 ^ i → c ≤ 9 → Dg out → out.length = i → i + dg A ≤ 900000 →
  Ev (fun k => environref02_plus.l0 k (dl a) (dl b) out (c : Int) (i : Int)) (dl (vl out + 10 ^ i * A)) := by
 intro A
 induction A using Nat.strongRecOn with
 | ind A ih =>
  intro i c out hA hc hd hi hs
  have ia := Aside0.mk (dl_lt_iff (a := a) (i := i))
  have ib := Aside0.mk (dl_lt_iff (a := b) (i := i))
  have sa := Aside0.mk (div_succ a i)
  have sb := Aside0.mk (div_succ b i)
  have rda := Aside0.mk (rd_dl (n := a) (i := i))
  have rdb := Aside0.mk (rd_dl (n := b) (i := i))
  generalize a / 10 ^ i = qa at *
  generalize b / 10 ^ i = qb at *
  have esum : Aside0 (∀ v : Nat, v + 10 ^ i * (A % 10) + 10 ^ (i + 1) * (A / 10) = v + 10 ^ i * A) := ⟨by
   intro v
   rw [Nat.pow_succ, Nat.mul_assoc, Nat.add_assoc, ← Nat.mul_add]; congr 2; omega⟩
  by_cases hz : A = 0
  ·have z1 : ¬ i < (dl a).length := by rw [ia.out]; omega
   have z2 : ¬ i < (dl b).length := by rw [ib.out]; omega
   obtain rfl : c = 0 := by omega
   refine Ev.step (f := fun k => environref02_plus.j1 k (dl a) (dl b) out 0 i false) (fun k => ?_) ?_
   ·simp only [environref02_plus.l0]; rw [if_neg (by omega), if_neg (by omega)]; rfl
   refine Ev.step (f := fun k => (environref02_trim.f k out).bind fun t => some t) (fun k => ?_) ?_
   ·simp only [environref02_plus.j1]; rw [if_neg (by simp)]
   rw [hz, Nat.mul_zero, Nat.add_zero]
   exact Ev.bind (trim_is (by omega) hd) (Ev.now _)
  ·have hp := dg_pos hz
   have go : Ev (fun k => environref02_plus.l0 k (dl a) (dl b) (out ++ [((A % 10 : Nat) : Int)]) (((c + qa % 10 + qb % 10) / 10 : Nat) : Int) ((i + 1 : Nat) : Int)) (dl (vl out + 10 ^ i * A)) := by
    have h := ih (A / 10) (by omega) (i + 1) ((c + qa % 10 + qb % 10) / 10) (out ++ [((A % 10 : Nat) : Int)]) (by rw [sa.out, sb.out]; omega) (by omega) (hd.append (Dg.cons (by omega) (by omega) Dg.nil)) (by rw [List.length_append, List.length_singleton]; omega) (by omega)
    rw [vl_snoc, hi, Int.toNat_natCast, esum.out] at h
    exact h
   have e1 : Aside0 (((i + 1 : Nat) : Int) = wrap64 ((i : Int) + 1)) := ⟨by rw [x64 (by omega) (by omega)]; omega⟩
   refine Ev.step (f := fun k => environref02_plus.j1 k (dl a) (dl b) out c i true) (fun k => ?_) ?_
   ·simp only [environref02_plus.l0]
    by_cases z1 : i < (dl a).length
    ·rw [if_pos (by omega)]
    ·rw [if_neg (by omega)]
     by_cases z2 : i < (dl b).length
     ·rw [if_pos (by omega)]
     ·rw [if_neg (by omega)]
      have h1 : qa = 0 := Decidable.byContradiction fun h => z1 (ia.out.2 h)
      have h2 : qb = 0 := Decidable.byContradiction fun h => z2 (ib.out.2 h)
      have : 0 < c := by omega
      rw [decide_eq_true (by omega)]
   refine Ev.step (fun k => ?_) go
   simp only [environref02_plus.j1]
   rw [if_pos trivial, e1.out]
   have em : ∀ d : Nat, d ≤ 27 → (wrap64 (Int.tdiv (d : Int) 10) = ((d / 10 : Nat) : Int) ∧ Int.tmod (d : Int) 10 = ((d % 10 : Nat) : Int)) := by
    intro d hd
    rw [Int.tdiv_eq_ediv_of_nonneg (by omega), Int.tmod_eq_emod_of_nonneg (by omega), x64 (by omega) (by omega)]
    exact ⟨rfl, rfl⟩
   have fin : ∀ d : Nat, d = c + qa % 10 + qb % 10 → environref02_plus.l0 k (dl a) (dl b) (out ++ [Int.tmod (d : Int) 10]) (wrap64 (Int.tdiv (d : Int) 10)) (wrap64 ((i : Int) + 1)) = environref02_plus.l0 k (dl a) (dl b) (out ++ [((A % 10 : Nat) : Int)]) (((c + qa % 10 + qb % 10) / 10 : Nat) : Int) (wrap64 ((i : Int) + 1)) := by
    intro d hd
    have := em d (by omega)
    rw [this.1, this.2, hd]
    congr 4
    omega
   by_cases z1 : i < (dl a).length
   ·have ra := rda.out z1
    rw [if_pos (by omega), if_pos (by omega), ra]
    by_cases z2 : i < (dl b).length
    ·rw [if_pos (by omega), if_pos (by omega), rdb.out z2]
     rw [x64 (n := (c : Int) + ((qa % 10 : Nat) : Int)) (by omega) (by omega), x64 (n := (c : Int) + ((qa % 10 : Nat) : Int) + ((qb % 10 : Nat) : Int)) (by omega) (by omega)]
     exact fin (c + qa % 10 + qb % 10) rfl
    ·rw [if_neg (by omega), if_pos (by omega)]
     rw [x64 (n := (c : Int) + ((qa % 10 : Nat) : Int)) (by omega) (by omega)]
     have hb0 : qb = 0 := Decidable.byContradiction fun h => z2 (ib.out.2 h)
     exact fin (c + qa % 10) (by omega)
   ·have ha0 : qa = 0 := Decidable.byContradiction fun h => z1 (ia.out.2 h)
    rw [if_neg (by omega)]
    by_cases z2 : i < (dl b).length
    ·rw [if_pos (by omega), if_pos (by omega), if_pos (by omega), rdb.out z2]
     rw [x64 (n := (c : Int) + ((qb % 10 : Nat) : Int)) (by omega) (by omega)]
     exact fin (c + qb % 10) (by omega)
    ·have hb0 : qb = 0 := Decidable.byContradiction fun h => z2 (ib.out.2 h)
     rw [if_neg (by omega), if_pos (by omega)]
     exact fin c (by omega)
theorem dl_len_add (a b : Nat) : dg (a + b) ≤ max (dg a) (dg b) + 1 := by
 by_cases hz : a + b = 0
 ·rw [hz, dg_zero]; omega
 ·have h1 := dg_lt a; have h2 := dg_lt b
  have h3 : 10 ^ dg a ≤ 10 ^ max (dg a) (dg b) := Nat.pow_le_pow_right (by decide) (Nat.le_max_left _ _)
  have h4 : 10 ^ dg b ≤ 10 ^ max (dg a) (dg b) := Nat.pow_le_pow_right (by decide) (Nat.le_max_right _ _)
  have h5 := dg_le hz
  have h6 : 10 ^ (dg (a + b) - 1) < 10 ^ (max (dg a) (dg b) + 1) := by rw [Nat.pow_succ]; omega
  have := (Nat.pow_lt_pow_iff_right (show 1 < 10 by decide)).1 h6
  omega
theorem plus_is' {a b : Nat} (ha : dg a ≤ 100000) (hb : dg b ≤ 100000) : Ev (fun k => environref02_plus.f k (dl a) (dl b)) (dl (a + b)) := by
 have h := plus_l0 a b (by rw [len_dl]; omega) (by rw [len_dl]; omega) (a + b) 0 0 [] (by simp) (by omega) Dg.nil rfl (by have := dl_len_add a b; omega)
 simp only [vl, Nat.pow_zero, Nat.one_mul, Nat.zero_add] at h
 exact h
theorem dl_shift {a : Nat} (h : a ≠ 0) (k : Nat) : List.replicate k 0 ++ dl a = dl (a * 10 ^ k) := by
 induction k with
 | zero => simp
 | succ k ih =>
  have h0 : a * 10 ^ (k + 1) ≠ 0 := Nat.mul_ne_zero h (Nat.ne_of_gt (Nat.pow_pos (by decide)))
  rw [List.replicate_succ, List.cons_append, ih, dl_pos h0, Nat.pow_succ, ← Nat.mul_assoc, Nat.mul_mod_left, Nat.mul_div_cancel _ (by decide)]
  rfl
theorem shift_is {a k : Nat} (ha : dg a ≤ 100000) (hk : k ≤ 100000) : environref02_shift.f (dl a) (k : Int) = some (dl (a * 10 ^ k)) := by
 unfold environref02_shift.f
 by_cases h : a = 0
 ·subst h; rw [dl_zero, if_pos (by simp), Nat.zero_mul, dl_zero]
 ·have hp := dg_pos h
  rw [if_neg (by rw [len_dl]; omega), if_pos (by omega), Int.toNat_natCast, if_pos (by omega)]
  simp only [Option.bind_some]
  rw [if_pos (by rw [List.length_replicate, len_dl]; omega), dl_shift h]
theorem small_l0 (n : Nat) (hn : n < 1000000000000000000) : ∀ j : Nat, j ≤ (dl n).length → Ev (fun k => environref02_small.l0 k (dl n) ((n / 10 ^ j : Nat) : Int) ((j : Int) - 1)) (n : Int) := by
 intro j
 have hl : (dl n).length ≤ 39 := by rw [len_dl]; exact dg_small (by omega)
 induction j with
 | zero =>
  intro _
  refine Ev.step (f := fun _ => some (n : Int)) (fun k => ?_) (Ev.now _)
  simp only [environref02_small.l0]; rw [if_neg (by omega), Nat.pow_zero, Nat.div_one]
 | succ j ih =>
  intro hj
  have e : ((j + 1 : Nat) : Int) - 1 = (j : Int) := by omega
  have rb := rd_dl (n := n) (i := j) (by omega)
  have hq : n / 10 ^ j ≤ n := Nat.div_le_self _ _
  have sd := div_succ n j
  have ih := ih (by omega)
  rw [e, sd]
  clear sd e
  generalize n / 10 ^ j = q at *
  refine Ev.step (fun k => ?_) ih
  simp only [environref02_small.l0]; rw [if_pos (by omega), if_pos (by omega), if_pos (by omega), rb, x64 (n := 10 * ((q / 10 : Nat) : Int)) (by omega) (by omega), x64 (n := 10 * ((q / 10 : Nat) : Int) + ((q % 10 : Nat) : Int)) (by omega) (by omega), x64 (n := (j : Int) - 1) (by omega) (by omega)]
  congr 1; omega
theorem small_is {n : Nat} (hn : n < 1000000000000000000) : Ev (fun k => environref02_small.f k (dl n)) (n : Int) := by
 have hl : (dl n).length ≤ 39 := by rw [len_dl]; exact dg_small (by omega)
 have h := small_l0 n hn (dl n).length (Nat.le_refl _)
 rw [dl_len_le (Nat.le_refl _)] at h
 refine Ev.congr (fun k => ?_) h
 unfold environref02_small.f; rw [x64 (by omega) (by omega)]; rfl
theorem form_l0 (neg : Bool) : ∀ (n : Nat) (e : Int), n ≤ 1000000000000000000 → -100000 ≤ e → e + dg n ≤ 100000 → Ev (fun k => environref02_form.l0 k neg (dl n) e) (sgn neg (strip n e).1, (strip n e).2) := by
 intro n
 induction n using Nat.strongRecOn with
 | ind n ih =>
  intro e hn he he2
  by_cases hz : n = 0
  ·subst hz
   rw [dl_zero]
   refine Ev.step (f := fun k => environref02_form.j1 k neg [] e) (fun k => ?_) ?_
   ·simp only [environref02_form.l0]; rw [if_neg (by simp)]
   refine Ev.step (f := fun k => some (0, 0)) (fun k => ?_) ?_
   ·simp only [environref02_form.j1]; rw [if_pos (by simp)]
   have h : strip 0 e = (0, 0) := by unfold strip; simp
   rw [h]
   have : sgn neg 0 = 0 := by unfold sgn; cases neg <;> rfl
   rw [this]; exact Ev.now _
  ·have hp := dg_pos hz
   have hlen : 0 < (dl n).length := by rw [len_dl]; omega
   have hr := rd_dl hlen
   rw [Nat.pow_zero, Nat.div_one] at hr
   by_cases h0 : n % 10 = 0
   ·have hs : strip n e = strip (n / 10) (e + 1) := by rw [strip, dif_neg hz, if_pos h0]
    rw [hs]
    refine Ev.step (fun k => ?_) (ih (n / 10) (by omega) (e + 1) (by omega) (by omega) (by omega))
    simp only [environref02_form.l0]
    rw [if_pos (by omega), if_pos (by omega), show (0 : Int) = ((0 : Nat) : Int) from rfl, hr, if_pos (by omega), if_pos (by omega), x64 (by omega) (by omega)]
    rw [dl_drop, Nat.pow_one]
   ·have hs : strip n e = (n, e) := by rw [strip, dif_neg hz, if_neg h0]
    rw [hs]
    refine Ev.step (f := fun k => environref02_form.j1 k neg (dl n) e) (fun k => ?_) ?_
    ·simp only [environref02_form.l0]
     rw [if_pos (by omega), if_pos (by omega), show (0 : Int) = ((0 : Nat) : Int) from rfl, hr, if_neg (by omega)]
    refine Ev.step (f := fun k => (environref02_small.f k (dl n)).bind fun t => if neg = true then some (wrap64 (-t), e) else some (t, e)) (fun k => ?_) ?_
    ·simp only [environref02_form.j1]; rw [if_neg (by omega)]
    refine Ev.bind (small_is (by omega)) ?_
    unfold sgn
    cases neg
    ·simp only [Bool.false_eq_true, if_false]; exact Ev.now _
    ·simp only [if_true]; rw [x64 (by omega) (by omega)]; exact Ev.now _
theorem form_is (neg : Bool) {n : Nat} {e : Int} (hn : n ≤ 1000000000000000000) (he : -100000 ≤ e) (he2 : e ≤ 90000) : Ev (fun k => environref02_form.f k neg (dl n) e) (sgn neg (strip n e).1, (strip n e).2) := by
 have := dg_small (n := n) (by omega)
 exact form_l0 neg n e hn he (by omega)
theorem five_dl : ([5] : List Int) = dl 5 := by rw [dl_pos (by decide)]; rw [dl_zero]; rfl
theorem cmp_half (r d : Nat) (hd : d ≠ 0) (more : Bool) (hr : r < 10 ^ d) : (if wrap64 (cmp r (5 * 10 ^ (d - 1)) + 1) = 1 then (if more = true then (2 : Int) else wrap64 (cmp r (5 * 10 ^ (d - 1)) + 1)) else wrap64 (cmp r (5 * 10 ^ (d - 1)) + 1)) = sdS r (10 ^ d) more + 1 := by
 have e : 10 ^ d = 10 * 10 ^ (d - 1) := by rw [Nat.mul_comm, ← Nat.pow_succ]; congr 1; omega
 rw [e] at hr ⊢
 generalize 10 ^ (d - 1) = K at *
 have w0 : wrap64 (-1 + 1) = 0 := by unfold wrap64; omega
 have w1 : wrap64 (0 + 1) = 1 := by unfold wrap64; omega
 have w2 : wrap64 (1 + 1) = 2 := by unfold wrap64; omega
 rcases Nat.lt_trichotomy r (5 * K) with h | h | h
 ·have hc : cmp r (5 * K) = -1 := by unfold cmp; rw [if_neg (by omega), if_pos h]
  have hs : sdS r (10 * K) more = -1 := by unfold sdS; rw [if_neg (by omega), if_pos (by omega)]
  rw [hc, hs, w0, if_neg (by decide)]; rfl
 ·have hc : cmp r (5 * K) = 0 := by unfold cmp; rw [if_pos h]
  have hs : sdS r (10 * K) more = if more = true then 1 else 0 := by unfold sdS; rw [if_pos (by omega)]
  rw [hc, hs, w1, if_pos rfl]; cases more <;> rfl
 ·have hc : cmp r (5 * K) = 1 := by unfold cmp; rw [if_neg (by omega), if_neg (by omega)]
  have hs : sdS r (10 * K) more = 1 := by unfold sdS; rw [if_neg (by omega), if_neg (by omega)]
  rw [hc, hs, w2, if_neg (by decide)]; rfl
theorem cut_is (neg : Bool) (n : Nat) (e : Int) (more : Bool) (d : Nat) (hd : d ≠ 0) (hnz : n ≠ 0 ∨ more = true) (hn : dg n ≤ 10000) (hd2_ : d ≤ 2000000000000) :
  Ev (fun k => environref02_cut.f k neg (dl n) e more (d : Int)) (dl (cutG n d more).1, (cutG n d more).2.1 + 1, (cutG n d more).2.2) := by
 have hlen := len_dl n
 unfold cutG
 rw [if_neg hd]
 by_cases hl : dg n < d
 ·have hlt : n < 10 ^ (d - 1) := dg_le_iff.1 (by omega)
  have e10 : 10 ^ d = 10 * 10 ^ (d - 1) := by rw [Nat.mul_comm, ← Nat.pow_succ]; congr 1; omega
  refine Ev.congr (f := fun _ => some ([], 0, true)) (fun k => ?_) ?_
  ·unfold environref02_cut.f; rw [if_pos (by omega)]
  have h1 : n % 10 ^ d = n := Nat.mod_eq_of_lt (by omega)
  have h2 : n / 10 ^ d = 0 := Nat.div_eq_of_lt (by omega)
  have h3 : sdS n (10 ^ d) more = -1 := by
   unfold sdS; rw [e10] at *; rw [if_neg (by omega), if_pos (by omega)]
  have h4 : (more || decide (n ≠ 0)) = true := by rcases hnz with h | h <;> simp [h]
  rw [h1, h2, h3, h4, dl_zero]; exact Ev.now _
 ·have hd2 : d ≤ 20000 := by omega
  have hlen5 : dg 5 ≤ 100000 := by rw [dg_pos (by decide), dg_zero]; decide
  refine Ev.congr (f := fun k => (environref02_trim.f k ([] ++ (dl n).drop d)).bind fun t311 => (environref02_trim.f k ([] ++ (dl n).take d)).bind fun t321 => (environref02_compare.f k t321 (dl (5 * 10 ^ (d - 1)))).bind fun t330 => some (t311, (if wrap64 (t330 + 1) = 1 then (if more = true then 2 else wrap64 (t330 + 1)) else wrap64 (t330 + 1)), if (t321.length : Int) > 0 then true else more)) (fun k => ?_) ?_
  ·have hsh : environref02_shift.f [5] (wrap64 ((d : Int) - 1)) = some (dl (5 * 10 ^ (d - 1))) := by
    rw [x64 (by omega) (by omega), show (d : Int) - 1 = ((d - 1 : Nat) : Int) by omega, five_dl]; exact shift_is hlen5 (by omega)
   unfold environref02_cut.f
   rw [if_neg (by omega)]
   simp only [Option.bind_some]
   rw [if_pos (by omega), if_pos (by omega), Int.toNat_natCast, if_pos (by rw [List.length_nil, List.length_drop]; omega)]
   have hT : ([] : List Int).length + ((dl n).take d).length < 17592186044416 := by rw [List.length_nil, List.length_take]; omega
   simp only [hT, if_true, hsh, Option.bind_some]
   congr 1; funext t311; congr 1; funext t321; congr 1; funext t330
   by_cases c1 : wrap64 (t330 + 1) = 1
   ·rw [if_pos c1, if_pos c1]
    cases more
    ·simp only [Bool.false_eq_true, if_false]; split <;> rfl
    ·simp only [if_true]; split <;> rfl
   ·rw [if_neg c1, if_neg c1]; split <;> rfl
  rw [List.nil_append, List.nil_append]
  have t1 := trim_is (l := (dl n).drop d) (by rw [List.length_drop]; omega) ((dg_dl n).drop d)
  have t2 := trim_is (l := (dl n).take d) (by rw [List.length_take]; omega) ((dg_dl n).take d)
  rw [dl_drop, vl_dl] at t1
  rw [vl_take] at t2
  rw [dl_drop]
  refine Ev.bind t1 (Ev.bind t2 ?_)
  have hr := Nat.mod_lt n (p10 d)
  have hdr : dg (n % 10 ^ d) ≤ 20000 := Nat.le_trans (dg_le_iff.2 hr) hd2
  have hd5 : dg (5 * 10 ^ (d - 1)) ≤ 20000 := by rw [dg_mul (by decide), dg_pos (n := 5) (by decide), dg_zero]; omega
  refine Ev.bind (cmp_is' (by rw [len_dl]; omega) (by rw [len_dl]; omega)) ?_
  rw [cmp_half _ _ hd _ hr]
  have : (if ((dl (n % 10 ^ d)).length : Int) > 0 then true else more) = (more || decide (n % 10 ^ d ≠ 0)) := by
   by_cases h0 : n % 10 ^ d = 0
   ·rw [h0, dl_zero]; simp
   ·have hp := dg_pos h0
    rw [if_pos (by rw [len_dl]; omega)]; simp [h0]
  rw [this]; exact Ev.now _
theorem away_is (how : Int) (neg : Bool) (q : Nat) (half : Int) (left : Bool) (hh : half = -1 ∨ half = 0 ∨ half = 1) : environref02_away.f how neg (dl q) (half + 1) left = some (awayS how neg (decide (q % 2 = 1)) half left) := by
 unfold environref02_away.f awayS
 by_cases h0 : how = 0
 ·rw [if_pos h0, if_pos h0]
  by_cases hz : q = 0
  ·subst hz; rw [dl_zero, if_neg (by simp)]
   rcases hh with rfl | rfl | rfl <;> simp
  ·have hp := dg_pos hz
   have hlen : 0 < (dl q).length := by rw [len_dl]; omega
   have hr := rd_dl hlen
   rw [Nat.pow_zero, Nat.div_one] at hr
   rw [if_pos (by omega), if_pos (by omega), show (0 : Int) = ((0 : Nat) : Int) from rfl, hr]
   have hm : (Int.tmod ((q % 10 : Nat) : Int) 2 == 1) = decide (q % 2 = 1) := by
    rw [Int.tmod_eq_emod_of_nonneg (by omega), Bool.eq_iff_iff, beq_iff_eq, decide_eq_true_eq]; omega
   rw [hm]
   rcases hh with rfl | rfl | rfl <;> simp
 ·rw [if_neg h0, if_neg h0]
  by_cases h1 : how = 1
  ·rw [if_pos h1, if_pos h1]; cases left <;> simp
  ·rw [if_neg h1, if_neg h1]
   by_cases h2 : how = 2
   ·rw [if_pos h2, if_pos h2]; cases left <;> simp
   ·rw [if_neg h2, if_neg h2]
def pd (s : Int) : Nat := if s = -1 then 7 else if s = 0 then 15 else if s = 1 then 18 else 0
def er (s : Int) : Int := if s = -1 then 0 else if s = 0 then 0 else if s = 1 then 0 else 1
theorem rdigits_is (s : Int) : environref02_Digits.f s = some ((pd s : Int), er s) := by
 unfold environref02_Digits.f pd er
 split
 ·rfl
 ·split
  ·rfl
  ·split <;> rfl
theorem pd_of {s : Int} (h : er s = 0) : pd s = 7 ∨ pd s = 15 ∨ pd s = 18 := by
 unfold er at h; unfold pd
 split
 ·omega
 ·split
  ·omega
  ·split
   ·omega
   ·rename_i h1 h2 h3; rw [if_neg h1, if_neg h2, if_neg h3] at h; omega
theorem er_or (s : Int) : er s = 0 ∨ er s = 1 := by
 unfold er; split
 ·omega
 ·split
  ·omega
  ·split <;> omega
theorem nines (p : Nat) : dl (10 ^ p - 1) = List.replicate p 9 := by
 induction p with
 | zero => rw [Nat.pow_zero, Nat.sub_self, dl_zero]; rfl
 | succ p ih =>
  have z := p10 p
  have e : 10 ^ (p + 1) = 10 * 10 ^ p := by rw [Nat.pow_succ, Nat.mul_comm]
  rw [dl_pos (by omega), List.replicate_succ, ← ih]
  congr 1
  ·omega
  ·congr 1; omega
theorem most_l0 (p : Nat) (hp : p ≤ 18) (neg : Bool) (l : List Int) (e : Int) (more : Bool) (hp0 : p ≠ 0) : ∀ (n i : Nat), i + n = p → Ev (fun k => environref02_Rounded.l0 k (p : Int) (List.replicate i 9) (i : Int) neg l e more) (sgn neg (10 ^ p - 1), 400, 0) := by
 intro n
 induction n with
 | zero =>
  intro i hi
  obtain rfl : i = p := by omega
  refine Ev.step (f := fun k => (environref02_form.f k neg (List.replicate i 9) 400).bind fun t => some (t.1, t.2, 0)) (fun k => ?_) ?_
  ·simp only [environref02_Rounded.l0]; rw [if_neg (by omega)]
  rw [← nines]
  have h18 : 10 ^ i ≤ 10 ^ 18 := Nat.pow_le_pow_right (by decide) hp
  have h := form_is neg (n := 10 ^ i - 1) (e := 400) (by omega) (by omega) (by omega)
  have hm : (10 ^ i - 1) % 10 ≠ 0 := by
   have e : 10 ^ i = 10 * 10 ^ (i - 1) := by rw [Nat.mul_comm, ← Nat.pow_succ]; congr 1; omega
   have := p10 (i - 1); omega
  rw [strip_ok (fun h => by rw [h] at hm; exact absurd rfl hm) (fun _ => hm)] at h
  exact Ev.bind h (Ev.now _)
 | succ n ih =>
  intro i hi
  refine Ev.step (fun k => ?_) (ih (i + 1) (by omega))
  simp only [environref02_Rounded.l0]; rw [if_pos (by omega), if_pos (by rw [List.length_replicate]; omega), x64 (by omega) (by omega), List.replicate_succ']
  rfl
def flat (r : (Int × Int) × Int) : Int × Int × Int := (r.1.1, r.1.2, r.2)
theorem j4_is (p : Nat) (hp : p ≤ 18) (hp0 : p ≠ 0) (b neg : Bool) (l : List Int) (e : Int) (more : Bool) :
  Ev (fun k => environref02_Rounded.j4 k (p : Int) b neg l e more) (if b = true then (sgn neg (10 ^ p - 1), 400, 0) else (0, 0, 11)) := by
 cases b
 ·refine Ev.step (f := fun _ => some (0, 0, 11)) (fun k => ?_) (Ev.now _)
  simp only [environref02_Rounded.j4]; rw [if_neg (by simp)]
 ·refine Ev.step (fun k => ?_) (most_l0 p hp neg l e more hp0 p 0 (by omega))
  simp only [environref02_Rounded.j4]; rw [if_pos trivial]; rfl
theorem j3_is (p : Nat) (hp : p ≤ 18) (hp0 : p ≠ 0) (how : Int) (h0 : 0 ≤ how) (h3 : how ≤ 3) (neg : Bool) (q : Nat) (hq : q ≤ 10 ^ p) (t : Int) (ht : -50000 ≤ t) (ht2 : t ≤ 3000000000000) (hz : q = 0 → t ≤ p + 400) (l : List Int) (e : Int) (more : Bool) :
  Ev (fun k => environref02_Rounded.j3 k how (p : Int) t (dl q) neg l e more) (flat (fin p how neg q t)) := by
 have h18 : 10 ^ p ≤ 10 ^ 18 := Nat.pow_le_pow_right (by decide) hp
 have hdq := dg_small (n := q) (by omega)
 have hw1 : Aside0 (wrap64 (((dl q).length : Int) + t) = (dg q : Int) + t) := ⟨by rw [len_dl]; exact x64 (by omega) (by omega)⟩
 have hw2 : Aside0 (wrap64 ((p : Int) + 400) = (p : Int) + 400) := ⟨x64 (by omega) (by omega)⟩
 by_cases hle : (dg q : Int) + t ≤ p + 400
 ·refine Ev.step (f := fun k => (environref02_form.f k neg (dl q) t).bind fun r => some (r.1, r.2, 0)) (fun k => ?_) ?_
  ·simp only [environref02_Rounded.j3]; rw [hw1.out, hw2.out, if_pos hle]
  have hfin : flat (fin p how neg q t) = (sgn neg (strip q t).1, (strip q t).2, 0) := by
   unfold fin
   by_cases h : q = 0
   ·subst h
    rw [if_pos rfl]
    have h : strip 0 t = (0, 0) := by unfold strip; simp
    rw [h]
    have : sgn neg 0 = 0 := by unfold sgn; cases neg <;> rfl
    rw [this]; rfl
   ·rw [if_neg h, if_neg (by omega)]; rfl
  rw [hfin]
  exact Ev.bind (form_is neg (by omega) (by omega) (by omega)) (Ev.now _)
 ·have hq0 : q ≠ 0 := by rintro rfl; rw [dg_zero] at hle; have := hz rfl; omega
  have key : ∀ b : Bool, (∀ k, environref02_Rounded.j3 (k + 1) how (p : Int) t (dl q) neg l e more = environref02_Rounded.j4 k (p : Int) b neg l e more) → (b = true ↔ ¬ (how = 0 ∨ how = 1 ∧ neg = false ∨ how = 2 ∧ neg = true)) → Ev (fun k => environref02_Rounded.j3 k how (p : Int) t (dl q) neg l e more) (flat (fin p how neg q t)) := by
   intro b hb hiff
   have hfin : flat (fin p how neg q t) = if b = true then (sgn neg (10 ^ p - 1), 400, 0) else (0, 0, 11) := by
    unfold fin
    rw [if_neg hq0, if_pos (by omega)]
    by_cases hc : how = 0 ∨ how = 1 ∧ neg = false ∨ how = 2 ∧ neg = true
    ·rw [if_pos hc, if_neg (fun h => hiff.1 h hc)]; rfl
    ·rw [if_neg hc, if_pos (hiff.2 hc)]; rfl
   rw [hfin]
   exact Ev.step hb (j4_is p hp hp0 b neg l e more)
  have hh : how = 0 ∨ how = 1 ∨ how = 2 ∨ how = 3 := by omega
  rcases hh with rfl | rfl | rfl | rfl
  ·refine key false (fun k => ?_) (by simp)
   simp only [environref02_Rounded.j3]; rw [hw1.out, hw2.out, if_neg hle, if_neg (by decide), if_neg (by decide), if_neg (by decide)]
  ·refine key neg (fun k => ?_) (by cases neg <;> simp)
   simp only [environref02_Rounded.j3]; rw [hw1.out, hw2.out, if_neg hle, if_neg (by decide), if_neg (by decide), if_pos trivial]
  ·refine key (!neg) (fun k => ?_) (by cases neg <;> simp)
   simp only [environref02_Rounded.j3]; rw [hw1.out, hw2.out, if_neg hle, if_neg (by decide), if_pos trivial]
   cases neg
   ·rw [if_neg (by decide)]; rfl
   ·rw [if_pos rfl, if_neg (by decide)]; rfl
  ·refine key true (fun k => ?_) (by simp)
   simp only [environref02_Rounded.j3]; rw [hw1.out, hw2.out, if_neg hle, if_pos trivial]
theorem sd_or (r m : Nat) (more : Bool) : sdS r m more = -1 ∨ sdS r m more = 0 ∨ sdS r m more = 1 := by
 unfold sdS; split
 ·split <;> simp
 ·split <;> simp
theorem cut_or (n d : Nat) (more : Bool) : (cutG n d more).2.1 = -1 ∨ (cutG n d more).2.1 = 0 ∨ (cutG n d more).2.1 = 1 := by
 unfold cutG; split
 ·simp
 ·exact sd_or _ _ _
theorem j2_is (p : Nat) (hp : p ≤ 18) (hp0 : p ≠ 0) (how : Int) (h0 : 0 ≤ how) (h3 : how ≤ 3) (neg : Bool) (c : Nat × Int × Bool) (hc : c.2.1 = -1 ∨ c.2.1 = 0 ∨ c.2.1 = 1) (hq : up how neg c ≤ 10 ^ p) (t : Int) (ht : -50000 ≤ t) (ht2 : t ≤ 3000000000000) (hz : up how neg c = 0 → t ≤ p + 400) (l : List Int) (e : Int) (more : Bool) :
  Ev (fun k => environref02_Rounded.j2 k how (p : Int) t (dl c.1) (c.2.1 + 1) c.2.2 neg l e more) (flat (fin p how neg (up how neg c) t)) := by
 have h18 : 10 ^ p ≤ 10 ^ 18 := Nat.pow_le_pow_right (by decide) hp
 have haw := away_is how neg c.1 c.2.1 c.2.2 hc
 have hj := j3_is p hp hp0 how h0 h3 neg (up how neg c) hq t ht ht2 hz l e more
 by_cases ha : awayS how neg (decide (c.1 % 2 = 1)) c.2.1 c.2.2 = true
 ·have hu : up how neg c = c.1 + 1 := by unfold up; rw [if_pos ha]
  rw [ha] at haw
  refine Ev.step (f := fun k => (environref02_Of.f k 1).bind fun t372 => (environref02_plus.f k (dl c.1) t372).bind fun t375 => environref02_Rounded.j3 k how p t t375 neg l e more) (fun k => ?_) ?_
  ·simp only [environref02_Rounded.j2]; rw [haw]; simp only [Option.bind_some, if_true]
  have hd1 := dg_small (n := c.1) (by omega)
  have hd2 : dg 1 ≤ 100000 := by rw [dg_pos (by decide), dg_zero]; decide
  have ho := of_is (m := 1) (by decide) (by decide)
  have hp1 := plus_is' (a := c.1) (b := 1) (by omega) hd2
  rw [hu] at hj ⊢
  exact Ev.bind ho (Ev.bind hp1 hj)
 ·have hu : up how neg c = c.1 := by unfold up; rw [if_neg ha]; rfl
  have ha' : awayS how neg (decide (c.1 % 2 = 1)) c.2.1 c.2.2 = false := by simpa using ha
  rw [ha'] at haw
  rw [hu] at hj ⊢
  refine Ev.step (fun k => ?_) hj
  simp only [environref02_Rounded.j2]; rw [haw]; simp only [Option.bind_some, Bool.false_eq_true, if_false]
theorem rnd_zero (p : Nat) (how : Int) (neg : Bool) (e : Int) : rnd p how neg 0 e false = ((0, 0), 0) := by
 unfold rnd
 have h : ∀ d, cutG 0 d false = (0, -1, false) := by
  intro d; have := cut_exact 0 d d (Nat.le_refl _); simpa using this
 rw [h, up_exact]; unfold fin; simp
theorem rounded_is {s : Int} (hs : er s = 0) (how : Int) (h0 : 0 ≤ how) (h3 : how ≤ 3) (neg : Bool) (n : Nat) (e : Int) (more : Bool) (hnz : n ≠ 0 ∨ more = false) (hn : dg n ≤ 5000) (he : -2000000000000 ≤ e) (he2 : e ≤ 2000000000000) :
  Ev (fun k => environref02_Rounded.f k s how neg (dl n) e more) (flat (rnd (pd s) how neg n e more)) := by
 have hp := pd_of hs
 have hlen := len_dl n
 by_cases hz : n = 0
 ·subst hz
  obtain rfl : more = false := by rcases hnz with h | h; exact absurd rfl h; exact h
  rw [rnd_zero, dl_zero]
  refine Ev.congr (f := fun k => environref02_Rounded.j0 k how (pd s) true neg [] e false) (fun k => ?_) ?_
  ·unfold environref02_Rounded.f; rw [rdigits_is]; simp only [Option.bind_some]; rw [if_pos (by simp)]; rfl
  refine Ev.step (f := fun k => some (0, 0, 0)) (fun k => ?_) (Ev.now _)
  simp only [environref02_Rounded.j0]; rw [if_pos trivial]
 ·have hdp := dg_pos hz
  have hup := up_lt (pd s) how neg n e more
  have hcq := cut_or n (dropS (pd s) n e) more
  have hg := (show -400 ≤ e + (dropS (pd s) n e : Int) by unfold dropS; omega)
  have hq0 : up how neg (cutG n (dropS (pd s) n e) more) = 0 → e + dropS (pd s) n e ≤ pd s + 400 := by
   intro hu
   have h1 := (up_le how neg n (dropS (pd s) n e) more).1
   rw [hu] at h1
   have h2 := dg_div n (dropS (pd s) n e)
   rw [Nat.le_zero.1 h1, dg_zero] at h2
   unfold dropS at *; omega
  have hj2 := j2_is (pd s) (by omega) (by omega) how h0 h3 neg (cutG n (dropS (pd s) n e) more) hcq hup (e + dropS (pd s) n e) (by omega) (by unfold dropS; omega) hq0 (dl n) e more
  have hD : dropS (pd s) n e = max (dg n - pd s) (-400 - e).toNat := rfl
  have j1 : Ev (fun k => environref02_Rounded.j1 k how (pd s) (max (e + dg n - pd s) (-400)) neg (dl n) e more) (flat (rnd (pd s) how neg n e more)) := by
   by_cases hd : dropS (pd s) n e = 0
   ·unfold rnd
    rw [hd] at hj2 ⊢
    rw [Int.natCast_zero, Int.add_zero] at *
    refine Ev.step (fun k => ?_) hj2
    simp only [environref02_Rounded.j1]; rw [if_neg (by omega)]; rfl
   ·refine Ev.step (f := fun k => (environref02_cut.f k neg (dl n) e more (dropS (pd s) n e : Nat)).bind fun b => environref02_Rounded.j2 k how (pd s) (e + dropS (pd s) n e) b.1 b.2.1 b.2.2 neg (dl n) e more) (fun k => ?_) ?_
    ·simp only [environref02_Rounded.j1]; rw [if_pos (by omega), x64 (by omega) (by omega)]
     have e1 : max (e + (dg n : Int) - (pd s : Int)) (-400) = e + ((dropS (pd s) n e : Nat) : Int) := by omega
     rw [e1, show e + ((dropS (pd s) n e : Nat) : Int) - e = ((dropS (pd s) n e : Nat) : Int) by omega]
    exact Ev.bind (cut_is neg n e more (dropS (pd s) n e) hd (.inl hz) (by omega) (by omega)) hj2
  refine Ev.congr (f := fun k => environref02_Rounded.j0 k how (pd s) false neg (dl n) e more) (fun k => ?_) ?_
  ·unfold environref02_Rounded.f; rw [rdigits_is]; simp only [Option.bind_some]; rw [if_neg (by omega)]
  refine Ev.step (fun k => ?_) j1
  simp only [environref02_Rounded.j0]; rw [if_neg (by simp), x64 (n := e + ((dl n).length : Int)) (by omega) (by omega), x64 (n := e + ((dl n).length : Int) - (pd s : Int)) (by omega) (by omega), hlen]
  by_cases h4 : e + (dg n : Int) - (pd s : Int) < -400
  ·rw [if_pos h4, show max (e + (dg n : Int) - (pd s : Int)) (-400) = -400 by omega]
  ·rw [if_neg h4, show max (e + (dg n : Int) - (pd s : Int)) (-400) = e + (dg n : Int) - (pd s : Int) by omega]
def okB (p n : Nat) (e : Int) : Bool := if n = 0 then decide (e = 0) else decide (n % 10 ≠ 0 ∧ dg n ≤ p ∧ -400 ≤ e ∧ e + dg n ≤ p + 400)
def makeS (s how m e : Int) : Int × Int × Int := if er s = 0 ∧ 0 ≤ how ∧ how ≤ 3 then flat (rnd (pd s) how (decide (m < 0)) m.natAbs (min (max e (-1000)) 1000) false) else (0, 0, 1)
theorem pdigits_is (s : Int) : reals_Digits.f s = some ((pd s : Int), er s) := by
 unfold reals_Digits.f pd er
 split
 ·rfl
 ·split
  ·rfl
  ·split <;> rfl
theorem hl_small {n : Nat} (h : n < 18446744073709551616) : hiw n = 0 ∧ low n = (n : Int) := by
 unfold hiw low; omega
theorem mag_is {m : Int} (h : -9223372036854775808 ≤ m) (h' : m ≤ 9223372036854775807) : reals_magnitude.f m = some (hiw m.natAbs, low m.natAbs) := by
 have hs := hl_small (n := m.natAbs) (by omega)
 rw [hs.1, hs.2]
 unfold reals_magnitude.f
 simp only [IntKind.wrap_u64]
 split
 ·congr 2; omega
 ·congr 2; omega
theorem two128 {n : Nat} (h : n ≤ 9223372036854775808) : n < 340282366920938463463374607431768211456 := by omega
theorem pdig_is {n : Nat} (h : n < 340282366920938463463374607431768211456) : reals_wide_digits.f (hiw n) (low n) = some ((dg n : Nat) : Int) := by
 unfold reals_wide_digits.f
 have hu := hl_u h
 rw [if_pos hu, wv_hl]
theorem tmod_ten (m : Int) : (Int.tmod m 10 = 0) ↔ m.natAbs % 10 = 0 := by
 rcases Int.lt_or_le m 0 with h | h
 ·have : m = -((m.natAbs : Nat) : Int) := by omega
  generalize m.natAbs = n at *
  subst this
  rw [Int.neg_tmod, Int.tmod_eq_emod_of_nonneg (by omega)]; omega
 ·have : m = ((m.natAbs : Nat) : Int) := by omega
  generalize m.natAbs = n at *
  subst this
  rw [Int.tmod_eq_emod_of_nonneg (by omega)]; omega
theorem valid_j0 (k : Nat) (h l p e : Int) (d : Nat) (m : Int) (hm : reals_magnitude.f m = some (h, l)) (hd : reals_wide_digits.f h l = some (d : Int)) : reals_Valid.j0 (k + 1) p false m e = some (decide ((wrap64 (d + (mx (wrap64 (e - 400)) 0))) ≤ p)) := by
 simp only [reals_Valid.j0]; rw [if_neg (by simp), hm]; simp only [Option.bind_some]; rw [hd]; simp only [Option.bind_some]
theorem pvalid_is (s m e : Int) (hm : -9223372036854775808 ≤ m) (hm2 : m ≤ 9223372036854775807) : Ev (fun k => reals_Valid.f k s m e) (decide (er s = 0) && okB (pd s) m.natAbs e) := by
 by_cases hs : er s = 0
 ·have hp := pd_of hs
  rw [hs, show decide ((0 : Int) = 0) = true from rfl, Bool.true_and]
  unfold okB
  by_cases h0 : m = 0
  ·subst h0
   refine Ev.congr (f := fun _ => some (decide (e = 0))) (fun k => ?_) (Ev.now _)
   unfold reals_Valid.f; rw [pdigits_is]; simp only [Option.bind_some]; rw [if_pos hs, if_pos trivial]; rfl
  ·have hz : m.natAbs ≠ 0 := by omega
   have hds := dg_small (n := m.natAbs) (by omega)
   have hdg := pdig_is (two128 (n := m.natAbs) (by omega))
   have hmg := mag_is hm hm2
   rw [if_neg hz]
   have bad : Ev (fun k => reals_Valid.j0 k (pd s) true m e) false := by
    refine Ev.step (f := fun _ => some false) (fun k => ?_) (Ev.now _)
    simp only [reals_Valid.j0]; rw [if_pos trivial]
   by_cases h1 : m.natAbs % 10 = 0
   ·rw [decide_eq_false (fun h => h.1 h1)]
    refine Ev.congr (fun k => ?_) bad
    unfold reals_Valid.f; rw [pdigits_is]; simp only [Option.bind_some]; rw [if_pos hs, if_neg h0, if_pos ((tmod_ten m).2 h1)]
   ·have h1' : ¬ Int.tmod m 10 = 0 := fun h => h1 ((tmod_ten m).1 h)
    by_cases h2 : e < -400
    ·rw [decide_eq_false (fun h => by have := h.2.2.1; omega)]
     refine Ev.congr (fun k => ?_) bad
     unfold reals_Valid.f; rw [pdigits_is]; simp only [Option.bind_some]; rw [if_pos hs, if_neg h0, if_neg h1', if_pos h2]
    ·by_cases h3 : e > 400 + pd s
     ·rw [decide_eq_false (fun h => by have := h.2.2.2; omega)]
      refine Ev.congr (fun k => ?_) bad
      unfold reals_Valid.f; rw [pdigits_is]; simp only [Option.bind_some]; rw [if_pos hs, if_neg h0, if_neg h1', if_neg h2, x64 (by omega) (by omega), decide_eq_true h3]
     ·refine Ev.congr (f := fun k => reals_Valid.j0 k (pd s) false m e) (fun k => ?_) ?_
      ·unfold reals_Valid.f; rw [pdigits_is]; simp only [Option.bind_some]; rw [if_pos hs, if_neg h0, if_neg h1', if_neg h2, x64 (by omega) (by omega), decide_eq_false h3]
      refine Ev.step (f := fun _ => some (decide (((dg m.natAbs : Nat) : Int) + mx (e - 400) 0 ≤ pd s))) (fun k => ?_) ?_
      ·rw [valid_j0 k _ _ _ e _ m hmg hdg]
       rw [x64 (n := e - 400) (by omega) (by omega), x64 (by unfold mx; split <;> omega) (by unfold mx; split <;> omega)]
      have : decide (((dg m.natAbs : Nat) : Int) + mx (e - 400) 0 ≤ pd s) = decide (m.natAbs % 10 ≠ 0 ∧ dg m.natAbs ≤ pd s ∧ -400 ≤ e ∧ e + dg m.natAbs ≤ pd s + 400) := by
       rw [decide_eq_decide]; unfold mx; constructor
       ·intro h; split at h <;> exact ⟨h1, by omega, by omega, by omega⟩
       ·rintro ⟨a, b, c, d⟩; split <;> omega
      rw [this]; exact Ev.now _
 ·refine Ev.congr (f := fun _ => some false) (fun k => ?_) ?_
  ·unfold reals_Valid.f; rw [pdigits_is]; simp only [Option.bind_some]; rw [if_neg hs]
  rw [decide_eq_false hs, Bool.false_and]; exact Ev.now _
def checkS (s how : Int) (ok : Bool) : Int × Int := if er s = 0 ∧ 0 ≤ how ∧ how ≤ 3 then (if ok = true then ((pd s : Int), 0) else (0, 11)) else (0, 1)
theorem check_l0 (s : Int) (hs : er s = 0) (l : List S23) (hl : ∀ x ∈ l, -9223372036854775808 ≤ x.f0 ∧ x.f0 ≤ 9223372036854775807) (hn : l.length ≤ 1000) : ∀ (n i : Nat), i + n = l.length →
  Ev (fun k => reals_check.l0 k s (pd s) l (l.length : Int) (i : Int)) (if (l.drop i).all (fun x => okB (pd s) x.f0.natAbs x.f1) = true then ((pd s : Int), 0) else (0, 11)) := by
 intro n
 induction n with
 | zero =>
  intro i hi
  rw [List.drop_eq_nil_of_le (by omega)]
  refine Ev.step (f := fun _ => some ((pd s : Int), 0)) (fun k => ?_) (Ev.now _)
  simp only [reals_check.l0]; rw [if_neg (by omega)]
 | succ n ih =>
  intro i hi
  have hlt : i < l.length := by omega
  have hrd : rd_T23 l (i : Int) = l[i] := by unfold rd_T23; rw [Int.toNat_natCast, List.getD_eq_getElem?_getD, List.getElem?_eq_getElem hlt]; rfl
  have hb := hl l[i] (List.getElem_mem hlt)
  have hv := pvalid_is s l[i].f0 l[i].f1 hb.1 hb.2
  rw [hs, show decide ((0 : Int) = 0) = true from rfl, Bool.true_and] at hv
  rw [List.drop_eq_getElem_cons hlt, List.all_cons]
  refine Ev.step (f := fun k => (reals_Valid.f k s l[i].f0 l[i].f1).bind fun t112 => if t112 = true then reals_check.l0 k s (pd s) l (l.length : Int) ((i + 1 : Nat) : Int) else some (0, 11)) (fun k => ?_) ?_
  ·simp only [reals_check.l0]; rw [if_pos (by omega), if_pos (by omega), if_pos (by omega), hrd, x64 (by omega) (by omega)]; rfl
  refine Ev.bind hv ?_
  cases okB (pd s) l[i].f0.natAbs l[i].f1
  ·exact Ev.now _
  ·rw [Bool.true_and]; exact ih (i + 1) (by omega)
theorem check_is (s how : Int) (l : List S23) (hl : ∀ x ∈ l, -9223372036854775808 ≤ x.f0 ∧ x.f0 ≤ 9223372036854775807) (hn : l.length ≤ 1000) : Ev (fun k => reals_check.f k s how l) (checkS s how (l.all fun x => okB (pd s) x.f0.natAbs x.f1)) := by
 unfold checkS
 have bad : ∀ p : Int, Ev (fun k => reals_check.j0 k s l p true) (0, 1) := by
  intro p
  refine Ev.step (f := fun _ => some (0, 1)) (fun k => ?_) (Ev.now _)
  simp only [reals_check.j0]; rw [if_pos trivial]
 rcases er_or s with hs | hs
 ·by_cases h0 : how < 0
  ·rw [if_neg (by omega)]
   refine Ev.congr (fun k => ?_) (bad (pd s))
   unfold reals_check.f; rw [pdigits_is]; simp only [Option.bind_some]; rw [if_pos hs, if_pos h0]
  ·by_cases h3 : how > 3
   ·rw [if_neg (by omega)]
    refine Ev.congr (fun k => ?_) (bad (pd s))
    unfold reals_check.f; rw [pdigits_is]; simp only [Option.bind_some]; rw [if_pos hs, if_neg h0, decide_eq_true h3]
   ·rw [if_pos ⟨hs, by omega, by omega⟩]
    refine Ev.congr (f := fun k => reals_check.j0 k s l (pd s) false) (fun k => ?_) ?_
    ·unfold reals_check.f; rw [pdigits_is]; simp only [Option.bind_some]; rw [if_pos hs, if_neg h0, decide_eq_false h3]
    refine Ev.step (fun k => ?_) (check_l0 s hs l hl hn l.length 0 (by omega))
    simp only [reals_check.j0]; rw [if_neg (by simp)]; rfl
 ·rw [if_neg (by omega)]
  refine Ev.congr (fun k => ?_) (bad (pd s))
  unfold reals_check.f; rw [pdigits_is]; simp only [Option.bind_some]; rw [if_neg (by omega)]
theorem plus_is {n m : Nat} (h : n + m < 340282366920938463463374607431768211456) : reals_wide_plus.f (hiw n) (low n) (hiw m) (low m) = some (hiw (n + m), low (n + m)) := by
 unfold reals_wide_plus.f
 have h1 := hl_u (n := n) (by omega)
 have h2 := hl_u (n := m) (by omega)
 rw [if_pos ⟨h1.1, h1.2, h2.1, h2.2⟩]
 unfold hiw low u64s
 congr 2 <;> omega
theorem cutS_is {n : Nat} (h : n < 340282366920938463463374607431768211456) (d : Nat) (more : Bool) : cutS n d more = cutG n d more := by
 unfold cutS cutG
 by_cases h0 : d = 0
 ·rw [if_pos h0, if_pos h0]
 ·rw [if_neg h0, if_neg h0]
  by_cases h1 : 38 < d
  ·rw [if_pos h1]
   have h39 : 10 ^ 39 ≤ 10 ^ d := Nat.pow_le_pow_right (by decide) h1
   have hlt : n < 10 ^ d := by omega
   rw [Nat.div_eq_of_lt hlt, Nat.mod_eq_of_lt hlt]
   have : sdS n (10 ^ d) more = -1 := by unfold sdS; rw [if_neg (by omega), if_pos (by omega)]
   rw [this]
  ·rw [if_neg h1]; rfl
theorem pcut_is {n : Nat} (h : n < 340282366920938463463374607431768211456) {d : Nat} (hd : d ≤ 1000000) (more : Bool) : reals_wide_cut.f (hiw n) (low n) (d : Int) more = some (hiw (cutG n d more).1, low (cutG n d more).1, (cutG n d more).2) := by
 unfold reals_wide_cut.f
 rw [if_pos ⟨hl_u h, by omega, by omega⟩, wv_hl, Int.toNat_natCast, cutS_is h]
theorem and_one (z : Int) (h0 : 0 ≤ z) (h1 : z < 18446744073709551616) : Go.bits .and .u64 z 1 = z % 2 := by
 obtain ⟨n, rfl⟩ := Int.eq_ofNat_of_zero_le h0
 have h := bits_and_u64_nat n 1 (by omega) (by decide)
 rw [show (1 : Int) = ((1 : Nat) : Int) from rfl, h, Nat.and_one_is_mod]; rfl
theorem paway_is (how : Int) (h0 : 0 ≤ how) (h3 : how ≤ 3) (neg : Bool) (x y z : Int) (b : Bool) (odd : Bool) (half : Int) (left : Bool) : reals_exact_away.f neg x y z b how odd half left = some (awayS how neg odd half left) := by
 unfold reals_exact_away.f awayS
 have hh : how = 0 ∨ how = 1 ∨ how = 2 ∨ how = 3 := by omega
 rcases hh with rfl | rfl | rfl | rfl
 ·rw [if_pos rfl, if_pos rfl]
  by_cases h : half > 0
  ·rw [if_pos h, decide_eq_true h]; rfl
  ·rw [if_neg h, decide_eq_false h]
   by_cases h' : half = 0
   ·rw [if_pos h', decide_eq_true h']; rfl
   ·rw [if_neg h', decide_eq_false h']; rfl
 ·cases neg <;> cases left <;> rfl
 ·cases neg <;> cases left <;> rfl
 ·cases neg <;> cases left <;> rfl
theorem over_ev {n c : Nat} (hn : n < 340282366920938463463374607431768211456) (hc0 : 0 < c) (hc : c < 18446744073709551616) : Ev (fun k => reals_wide_over.f k (hiw n) (low n) c) (hiw (n / c), low (n / c), ((n % c : Nat) : Int)) :=
 ⟨14, fun k hk => by obtain ⟨j, rfl⟩ : ∃ j, k = j + 14 := ⟨k - 14, by omega⟩; exact over_is hn hc0 hc j⟩
theorem power_ev {d : Nat} (hd : d ≤ 38) : Ev (fun k => reals_power.f k d) (hiw (10 ^ d), low (10 ^ d)) := ⟨d + 1, fun k hk => power_is hd k (by omega)⟩
theorem round_l0 (neg : Bool) (y z u : Int) (b : Bool) : ∀ (q : Nat) (t : Int), q ≠ 0 → q ≤ 1000000000000000000 → -100000 ≤ t → t + dg q ≤ 100000 → Ev (fun k => reals_exact_round.l0 k t neg y z u b (hiw q) (low q)) (flat (real neg (strip q t))) := by
 intro q
 induction q using Nat.strongRecOn with
 | ind q ih =>
  intro t hq hq2 ht ht2
  have hp := dg_pos hq
  have hs := hl_small (n := q) (by omega)
  by_cases h0 : q % 10 = 0
  ·rw [show strip q t = strip (q / 10) (t + 1) by rw [strip, dif_neg hq, if_pos h0]]
   refine Ev.step (f := fun k => (reals_wide_over.f k (hiw q) (low q) 10).bind fun bt151 => (if bt151.2.2 = 0 then (reals_exact_round.l0 k (wrap64 (t + 1)) neg y z u b bt151.1 bt151.2.1) else (if neg = true then (some (wrap64 (-(wrap64 (low q))), t, 0)) else (some (wrap64 (low q), t, 0))))) (fun k => ?_) ?_
   ·simp only [reals_exact_round.l0]
   refine Ev.bind (over_ev (c := 10) (by omega) (by decide) (by decide)) ?_
   rw [h0, x64 (by omega) (by omega)]
   exact ih (q / 10) (by omega) (t + 1) (by omega) (by omega) (by omega) (by omega)
  ·rw [show strip q t = (q, t) by rw [strip, dif_neg hq, if_neg h0]]
   refine Ev.step (f := fun k => (reals_wide_over.f k (hiw q) (low q) 10).bind fun bt151 => (if bt151.2.2 = 0 then (reals_exact_round.l0 k (wrap64 (t + 1)) neg y z u b bt151.1 bt151.2.1) else (if neg = true then (some (wrap64 (-(wrap64 (low q))), t, 0)) else (some (wrap64 (low q), t, 0))))) (fun k => ?_) ?_
   ·simp only [reals_exact_round.l0]
   refine Ev.bind (over_ev (c := 10) (by omega) (by decide) (by decide)) ?_
   have hq9 : q < 1000000000000000000 := by omega
   have hne : ¬ (((q % 10 : Nat) : Int) = 0) := by omega
   have hw1 : wrap64 (q : Int) = q := x64 (by clear hs; omega) (by clear hs; omega)
   have hw2 : wrap64 (-(q : Int)) = -q := x64 (by clear hs hw1; omega) (by clear hs hw1; omega)
   simp only [if_neg hne, hs.2, hw1, hw2]
   unfold flat real sgn
   cases neg
   ·simp only [Bool.false_eq_true, if_false]; exact Ev.now _
   ·simp only [if_true]; exact Ev.now _
theorem round_j3 (neg : Bool) (y z u : Int) (b : Bool) (q : Nat) (t : Int) (hq : q ≠ 0) (hq2 : q ≤ 1000000000000000000) (ht : -50000 ≤ t) (ht2 : t ≤ 50000) : Ev (fun k => reals_exact_round.j3 k t neg y z u b (hiw q) (low q)) (flat (real neg (strip q t))) := by
 have := dg_small (n := q) (by omega)
 refine Ev.step (fun k => ?_) (round_l0 neg y z u b q t hq hq2 (by omega) (by omega))
 simp only [reals_exact_round.j3]
theorem round_j2 (p : Nat) (hp : p ≤ 18) (hp0 : p ≠ 0) (x neg : Bool) (y z u : Int) (b : Bool) : Ev (fun k => reals_exact_round.j2 k (p : Int) x neg y z u b) (flat (if x = true then ((0, 0), 11) else real neg (10 ^ p - 1, 400))) := by
 cases x
 ·have h18 : 10 ^ p ≤ 10 ^ 18 := Nat.pow_le_pow_right (by decide) hp
  have h10 : 10 ^ p = 10 * 10 ^ (p - 1) := by rw [Nat.mul_comm, ← Nat.pow_succ]; congr 1; omega
  have hz := p10 (p - 1)
  refine Ev.step (f := fun k => (reals_power.f k p).bind fun bt147 => (reals_wide_minus.f bt147.1 bt147.2 0 1).bind fun bt149 => reals_exact_round.j3 k 400 neg y z u b bt149.1 bt149.2) (fun k => ?_) ?_
  ·simp only [reals_exact_round.j2]; rw [if_neg (by simp)]
  refine Ev.bind (power_ev (by omega)) ?_
  have hm := minus_is (n := 10 ^ p) (m := 1) (by omega) (by omega)
  rw [show hiw 1 = 0 from rfl, show low 1 = 1 from rfl] at hm
  dsimp only
  rw [hm]; simp only [Option.bind_some]
  have h := round_j3 neg y z u b (10 ^ p - 1) 400 (by omega) (by omega) (by omega) (by omega)
  rw [strip_ok (fun h => by omega) (fun _ => by omega)] at h
  exact h
 ·refine Ev.step (f := fun _ => some (0, 0, 11)) (fun k => ?_) (Ev.now _)
  simp only [reals_exact_round.j2]; rw [if_pos trivial]
theorem round_j1 (p : Nat) (hp : p ≤ 18) (hp0 : p ≠ 0) (how : Int) (h0 : 0 ≤ how) (h3 : how ≤ 3) (neg : Bool) (y z u : Int) (b : Bool) (q : Nat) (hq : q ≤ 1000000000000000000) (t : Int) (ht : -50000 ≤ t) (ht2 : t ≤ 50000) :
  Ev (fun k => reals_exact_round.j1 k (p : Int) how t neg y z u b (hiw q) (low q)) (flat (if q = 0 then ((0, 0), 0) else if dg q + max (t - 400) 0 > p then (if how = 0 ∨ how = 1 ∧ neg = false ∨ how = 2 ∧ neg = true then ((0, 0), 11) else real neg (10 ^ p - 1, 400)) else real neg (strip q t))) := by
 have hs := hl_small (n := q) (by omega)
 have hd := dg_small (n := q) (by omega)
 by_cases hz : q = 0
 ·subst hz
  refine Ev.step (f := fun _ => some (0, 0, 0)) (fun k => ?_) (Ev.now _)
  simp only [reals_exact_round.j1]; rw [if_pos (by decide)]
 ·have hb : ¬ ((hiw q == 0 && (low q == 0)) = true) := by
   rw [hs.2, Bool.and_eq_true, beq_iff_eq, beq_iff_eq]; omega
  have hdg := pdig_is (n := q) (by omega)
  have hw : Aside0 (wrap64 (((dg q : Nat) : Int) + (mx (wrap64 (t - 400)) 0)) = (dg q : Int) + max (t - 400) 0) := ⟨by
   rw [x64 (n := t - 400) (by omega) (by omega)]
   have : mx (t - 400) 0 = max (t - 400) 0 := by unfold mx; split <;> omega
   rw [this]; exact x64 (by omega) (by omega)⟩
  rw [if_neg hz]
  by_cases ho : (dg q : Int) + max (t - 400) 0 > p
  ·rw [if_pos ho]
   have key : ∀ x : Bool, (∀ k, reals_exact_round.j1 (k + 1) (p : Int) how t neg y z u b (hiw q) (low q) = reals_exact_round.j2 k (p : Int) x neg y z u b) → (x = true ↔ (how = 0 ∨ how = 1 ∧ neg = false ∨ how = 2 ∧ neg = true)) → Ev (fun k => reals_exact_round.j1 k (p : Int) how t neg y z u b (hiw q) (low q)) (flat (if how = 0 ∨ how = 1 ∧ neg = false ∨ how = 2 ∧ neg = true then ((0, 0), 11) else real neg (10 ^ p - 1, 400))) := by
    intro x hx hiff
    have h : Ev (fun k => reals_exact_round.j1 k (p : Int) how t neg y z u b (hiw q) (low q)) _ := Ev.step hx (round_j2 p hp hp0 x neg y z u b)
    by_cases hc : how = 0 ∨ how = 1 ∧ neg = false ∨ how = 2 ∧ neg = true
    ·rw [if_pos (hiff.2 hc)] at h; rw [if_pos hc]; exact h
    ·rw [if_neg (fun h => hc (hiff.1 h))] at h; rw [if_neg hc]; exact h
   have hh : how = 0 ∨ how = 1 ∨ how = 2 ∨ how = 3 := by omega
   rcases hh with rfl | rfl | rfl | rfl
   ·refine key true (fun k => ?_) (by simp)
    simp only [reals_exact_round.j1]; rw [if_neg hb, hdg]; simp only [Option.bind_some]; rw [hw.out, if_pos ho, if_pos trivial]
   ·refine key (!neg) (fun k => ?_) (by cases neg <;> simp)
    simp only [reals_exact_round.j1]; rw [if_neg hb, hdg]; simp only [Option.bind_some]; rw [hw.out, if_pos ho, if_neg (by decide), if_pos trivial]
    cases neg
    ·rw [if_neg (by decide)]; rfl
    ·rw [if_pos rfl, if_neg (by decide)]; rfl
   ·refine key neg (fun k => ?_) (by cases neg <;> simp)
    simp only [reals_exact_round.j1]; rw [if_neg hb, hdg]; simp only [Option.bind_some]; rw [hw.out, if_pos ho, if_neg (by decide), if_neg (by decide), if_pos trivial]
   ·refine key false (fun k => ?_) (by simp)
    simp only [reals_exact_round.j1]; rw [if_neg hb, hdg]; simp only [Option.bind_some]; rw [hw.out, if_pos ho, if_neg (by decide), if_neg (by decide), if_neg (by decide)]
  ·rw [if_neg ho]
   refine Ev.step (fun k => ?_) (round_j3 neg y z u b q t hz hq ht ht2)
   simp only [reals_exact_round.j1]; rw [if_neg hb, hdg]; simp only [Option.bind_some]; rw [hw.out, if_neg ho]
theorem round_j0 (p : Nat) (hp : p ≤ 18) (hp0 : p ≠ 0) (how : Int) (h0 : 0 ≤ how) (h3 : how ≤ 3) (neg : Bool) (y z u : Int) (b : Bool) (q : Nat) (hq : q ≤ 10 ^ p) (d : Int) (ht : -40000 ≤ u + d) (ht2 : u + d ≤ 40000) :
  Ev (fun k => reals_exact_round.j0 k (p : Int) how d neg y z u b (hiw q) (low q)) (flat (fin p how neg q (u + d))) := by
 have h18 : 10 ^ p ≤ 10 ^ 18 := Nat.pow_le_pow_right (by decide) hp
 have hdg := pdig_is (n := q) (by omega)
 have hw : Aside0 (wrap64 (u + d) = u + d) := ⟨x64 (by omega) (by omega)⟩
 have hw2 : Aside0 (wrap64 (u + d + 1) = u + d + 1) := ⟨x64 (by omega) (by omega)⟩
 rw [← finP_is hp0 how neg hq]
 unfold finP
 by_cases h : dg q > p
 ·simp only [if_pos h]
  refine Ev.step (f := fun k => (reals_wide_over.f k (hiw q) (low q) 10).bind fun bt143 => reals_exact_round.j1 k p how (u + d + 1) neg y z u b bt143.1 bt143.2.1) (fun k => ?_) ?_
  ·simp only [reals_exact_round.j0]; rw [hdg]; simp only [Option.bind_some]; rw [if_pos (by omega), hw.out, hw2.out]
  refine Ev.bind (over_ev (c := 10) (by omega) (by decide) (by decide)) ?_
  exact round_j1 p hp hp0 how h0 h3 neg y z u b (q / 10) (by omega) (u + d + 1) (by omega) (by omega)
 ·simp only [if_neg h]
  refine Ev.step (fun k => ?_) (round_j1 p hp hp0 how h0 h3 neg y z u b q (by omega) (u + d) (by omega) (by omega))
  simp only [reals_exact_round.j0]; rw [hdg]; simp only [Option.bind_some]; rw [if_neg (by omega), hw.out]
theorem round_step (k : Nat) (neg : Bool) (H L e : Int) (more : Bool) (p how t d CH CL half : Int) (ine odd a : Bool) (hdg : reals_wide_digits.f H L = some t) (hdrop : mx (mx (wrap64 (t - p)) (wrap64 ((-400) - e))) 0 = d) (hcut : reals_wide_cut.f H L d more = some (CH, CL, half, ine)) (hodd : ((Go.bits .and .u64 CL 1) == 1) = odd) (ha : reals_exact_away.f neg H L e more how odd half ine = some a) :
  reals_exact_round.f k neg H L e more p how = if a = true then ((reals_wide_plus.f CH CL 0 1).bind fun bt140 => (reals_exact_round.j0 k p how d neg H L e more bt140.1 bt140.2)) else (reals_exact_round.j0 k p how d neg H L e more CH CL) := by
 unfold reals_exact_round.f; rw [hdg]; simp only [Option.bind_some]; rw [hdrop, hcut]; simp only [Option.bind_some]; rw [hodd, ha]; simp only [Option.bind_some]
theorem round_is {s : Int} (hs : er s = 0) (how : Int) (h0 : 0 ≤ how) (h3 : how ≤ 3) (neg : Bool) {n : Nat} (hn : n < 340282366920938463463374607431768211456) (e : Int) (he : -15000 ≤ e) (he2 : e ≤ 15000) (more : Bool) :
  Ev (fun k => reals_exact_round.f k neg (hiw n) (low n) e more (pd s) how) (flat (rnd (pd s) how neg n e more)) := by
 have hp := pd_of hs
 have hd := dg_small (n := n) (by omega)
 have hdg := pdig_is hn
 have hdrop : Aside0 (mx (mx (wrap64 (((dg n : Nat) : Int) - (pd s : Int))) (wrap64 ((-400) - e))) 0 = ((dropS (pd s) n e : Nat) : Int)) := ⟨by
  rw [x64 (n := ((dg n : Nat) : Int) - (pd s : Int)) (by omega) (by omega), x64 (by omega) (by omega)]
  unfold mx dropS; split <;> split <;> omega⟩
 have hD : dropS (pd s) n e ≤ 20000 := by unfold dropS; omega
 have hcut := pcut_is hn (d := dropS (pd s) n e) (by omega) more
 have hup := up_lt (pd s) how neg n e more
 have h18 : 10 ^ pd s ≤ 10 ^ 18 := Nat.pow_le_pow_right (by decide) (by omega)
 have hg : -400 ≤ e + (dropS (pd s) n e : Int) := by unfold dropS; omega
 unfold rnd
 generalize hc : cutG n (dropS (pd s) n e) more = c at *
 have hq0 : c.1 ≤ n := by
  rw [← hc]; unfold cutG; split
  ·exact Nat.le_refl _
  ·exact Nat.div_le_self _ _
 have hu := hl_u (n := c.1) (by omega)
 have hodd : ((Go.bits .and .u64 (low c.1) 1) == 1) = decide (c.1 % 2 = 1) := by
  have := hu.2.out; unfold u64s at this
  rw [and_one _ this.1 this.2, Bool.eq_iff_iff, beq_iff_eq, decide_eq_true_eq]
  unfold low; omega
 have hj := round_j0 (pd s) (by omega) (by omega) how h0 h3 neg (hiw n) (low n) e more (up how neg c) hup (dropS (pd s) n e) (by omega) (by omega)
 refine Ev.congr (f := fun k => if awayS how neg (decide (c.1 % 2 = 1)) c.2.1 c.2.2 = true then ((reals_wide_plus.f (hiw c.1) (low c.1) 0 1).bind fun bt140 => (reals_exact_round.j0 k (pd s) how (dropS (pd s) n e : Nat) neg (hiw n) (low n) e more bt140.1 bt140.2)) else (reals_exact_round.j0 k (pd s) how (dropS (pd s) n e : Nat) neg (hiw n) (low n) e more (hiw c.1) (low c.1))) (fun k => ?_) ?_
 ·exact round_step k neg _ _ e more _ how _ _ _ _ _ _ _ _ hdg hdrop.out hcut hodd (paway_is how h0 h3 neg _ _ e more _ _ _)
 by_cases ha : awayS how neg (decide (c.1 % 2 = 1)) c.2.1 c.2.2 = true
 ·have huu : up how neg c = c.1 + 1 := by unfold up; rw [if_pos ha]
  have hpl := plus_is (n := c.1) (m := 1) (by omega)
  rw [show hiw 1 = 0 from rfl, show low 1 = 1 from rfl] at hpl
  refine Ev.congr (fun k => ?_) hj
  rw [if_pos ha, hpl, huu]; rfl
 ·have huu : up how neg c = c.1 := by unfold up; rw [if_neg ha]; rfl
  refine Ev.congr (fun k => ?_) hj
  rw [if_neg ha, huu]
theorem pof_is {m e : Int} (h : -9223372036854775808 ≤ m) (h' : m ≤ 9223372036854775807) : reals_of.f m e = some (decide (m < 0), hiw m.natAbs, low m.natAbs, e, false) := by
 unfold reals_of.f; rw [mag_is h h']; rfl
theorem make_in (k : Nat) (p how m e : Int) (x1 : Bool) (x2 x3 : Int) (hof : reals_of.f m e = some (x1, x2, x3, e, false)) : (if (((p, 0) : Int × Int)).2 = 0 then ((reals_of.f m e).bind fun bt158 => ((reals_exact_round.f k bt158.1 bt158.2.1 bt158.2.2.1 bt158.2.2.2.1 bt158.2.2.2.2 (((p, 0) : Int × Int)).1 how).bind fun bt163 => (some (bt163.1, bt163.2.1, bt163.2.2)))) else (some (0, 0, (((p, 0) : Int × Int)).2))) = (reals_exact_round.f k x1 x2 x3 e false p how).bind fun bt163 => some (bt163.1, bt163.2.1, bt163.2.2) := by
 rw [if_pos rfl, hof]; rfl
theorem pmake_is (s how m e : Int) (hm : -9223372036854775808 ≤ m) (hm2 : m ≤ 9223372036854775807) : Ev (fun k => reals_Make.f k s how m e) (makeS s how m e) := by
 have hk := check_is s how [] (by simp) (by simp)
 unfold reals_Make.f makeS
 refine Ev.bind hk ?_
 unfold checkS
 by_cases hc : er s = 0 ∧ 0 ≤ how ∧ how ≤ 3
 ·rw [if_pos hc, if_pos hc]
  have hr := round_is hc.1 how hc.2.1 hc.2.2 (decide (m < 0)) (n := m.natAbs) (two128 (by omega)) (min (max e (-1000)) 1000) (by omega) (by omega) false
  have he : mn (mx e (-1000)) 1000 = min (max e (-1000)) 1000 := by unfold mn mx; split <;> split <;> omega
  refine Ev.congr (fun k => ?_) (Ev.bind hr (Ev.now (flat _)))
  simp only [List.all_nil, if_true, he]
  exact make_in k _ how m _ _ _ _ (pof_is hm hm2)
 ·rw [if_neg hc, if_neg hc]
  exact Ev.congr (fun k => by rw [if_neg (by decide)]) (Ev.now _)
end Go.Proofs.YtckbmniiecbalaaGreatDoor.PT.Rr
namespace Go.Proofs.YtckbmniiecbalaaGreatDoor.PT
open Go.RowKit Go.Proofs.YtckbmniiecbalaaGreatDoorW.PrintWords Go.Proofs.YtckbmniiecbalaaGreatDoorW.PrintLast Go.Proofs.YtckbmniiecbalaaGreatDoorW.PrintMore
set_option linter.unusedVariables false
set_option linter.unusedSimpArgs false
theorem t64 {n : Int} (h : -9223372036854775808 ≤ n) (h' : n ≤ 9223372036854775807) : wrap64 n = n := by unfold wrap64; omega
def B (l : List UInt8) : ByteArray := ⟨l.toArray⟩
theorem B_list (l : List UInt8) : (B l).data.toList = l := rfl
theorem B_size (l : List UInt8) : (B l).size = l.length := by show l.toArray.size = _; simp
theorem B_of (s : ByteArray) : s = B s.data.toList := rfl
theorem B_app (l r : List UInt8) : B l ++ B r = B (l ++ r) := by
 apply ByteArray.ext; rw [ByteArray.data_append]; simp [B]
theorem B_toList (l : List UInt8) : (B l).toList = l := by rw [ByteArray.toList_eq]; rfl
theorem B_at {l : List UInt8} {i : Nat} (h : i < l.length) : bt (B l) (i : Int) = ((l[i]).toNat : Int) := by
 have := bt_at (B l) (i : Int) (by rw [B_size, Int.toNat_natCast]; exact h)
 rw [← this]; rfl
theorem u8_eq (c d : UInt8) : ((c.toNat : Int) = (d.toNat : Int)) ↔ c = d := ⟨fun h => UInt8.toNat_inj.1 (by omega), fun h => by rw [h]⟩
theorem e9 (c : UInt8) : ((c.toNat : Int) = 9) ↔ c = 9 := u8_eq c 9
theorem e10 (c : UInt8) : ((c.toNat : Int) = 10) ↔ c = 10 := u8_eq c 10
theorem e12 (c : UInt8) : ((c.toNat : Int) = 12) ↔ c = 12 := u8_eq c 12
theorem e32 (c : UInt8) : ((c.toNat : Int) = 32) ↔ c = 32 := u8_eq c 32
theorem e43 (c : UInt8) : ((c.toNat : Int) = 43) ↔ c = 43 := u8_eq c 43
theorem e45 (c : UInt8) : ((c.toNat : Int) = 45) ↔ c = 45 := u8_eq c 45
theorem e46 (c : UInt8) : ((c.toNat : Int) = 46) ↔ c = 46 := u8_eq c 46
theorem e70 (c : UInt8) : ((c.toNat : Int) = 70) ↔ c = 70 := u8_eq c 70
theorem e84 (c : UInt8) : ((c.toNat : Int) = 84) ↔ c = 84 := u8_eq c 84
theorem e101 (c : UInt8) : ((c.toNat : Int) = 101) ↔ c = 101 := u8_eq c 101
def isd (c : UInt8) : Bool := decide (48 ≤ c.toNat ∧ c.toNat ≤ 57)
def nd (l : List UInt8) : Nat := (l.takeWhile isd).length
theorem nd_le (l : List UInt8) : nd l ≤ l.length := (List.takeWhile_sublist isd).length_le
theorem nd_nil : nd [] = 0 := rfl
theorem nd_cons (c : UInt8) (l : List UInt8) : nd (c :: l) = if isd c = true then nd l + 1 else 0 := by
 unfold nd; rw [List.takeWhile_cons]; split <;> rfl
theorem nd_at {l : List UInt8} {i : Nat} (h : i < l.length) : nd (l.drop i) = if isd l[i] = true then nd (l.drop (i + 1)) + 1 else 0 := by
 rw [List.drop_eq_getElem_cons h, nd_cons]
theorem tw_take (p : UInt8 → Bool) (l : List UInt8) : l.take (l.takeWhile p).length = l.takeWhile p := by
 induction l with
 | nil => rfl
 | cons c l ih => rw [List.takeWhile_cons]; split <;> simp [ih]
theorem nd_take (l : List UInt8) : l.take (nd l) = l.takeWhile isd := tw_take isd l
theorem pdig_loop {l : List UInt8} (hl : l.length ≤ 100000) : ∀ r i : Nat, i + r = l.length → Ev (fun k => texts_digits.l0 k (B l) (i : Int)) ((i + nd (l.drop i) : Nat) : Int) := by
 intro r
 induction r with
 | zero =>
  intro i hi
  refine Ev.step (f := fun _ => some (i : Int)) (fun k => ?_) ?_
  ·simp only [texts_digits.l0]; rw [if_neg (by rw [B_size]; omega)]
  ·rw [List.drop_eq_nil_of_le (by omega), nd_nil]; exact Ev.now _
 | succ r ih =>
  intro i hi
  have hi' : i < l.length := by omega
  have hb := B_at hi'
  have hn := nd_at hi'
  have ih := ih (i + 1) (by omega)
  by_cases hc : isd l[i] = true
  ·have hd := of_decide_eq_true hc
   rw [if_pos hc] at hn
   rw [show i + nd (l.drop i) = i + 1 + nd (l.drop (i + 1)) by omega]
   refine Ev.step (fun k => ?_) ih
   simp only [texts_digits.l0]
   rw [B_size, if_pos (by omega), if_pos (by omega), hb, if_pos (by omega), if_pos (by omega), t64 (by omega) (by omega)]; rfl
  ·have hd : ¬ (48 ≤ (l[i]).toNat ∧ (l[i]).toNat ≤ 57) := fun h => hc (decide_eq_true h)
   rw [if_neg hc] at hn
   rw [show i + nd (l.drop i) = i by omega]
   refine Ev.step (f := fun _ => some (i : Int)) (fun k => ?_) (Ev.now _)
   simp only [texts_digits.l0]
   rw [B_size, if_pos (by omega), if_pos (by omega), hb]
   by_cases h1 : ((l[i]).toNat : Int) ≥ 48
   ·rw [if_pos h1, if_neg (by omega)]
   ·rw [if_neg h1]
theorem pdig_ev {l : List UInt8} (hl : l.length ≤ 100000) : Ev (fun k => texts_digits.f k (B l)) ((nd l : Nat) : Int) := by
 have := pdig_loop hl l.length 0 (by omega)
 rw [List.drop_zero, Nat.zero_add] at this
 exact this
theorem rdig_loop {l : List UInt8} (hl : l.length ≤ 100000) (a : Nat) (ha : a ≤ 100000) : ∀ r i : Nat, a + i + r = l.length ∨ (r = 0 ∧ l.length ≤ a + i) → i ≤ 100000 → Ev (fun k => environref03_digits.l0 k (B l) (a : Int) (i : Int)) ((i + nd (l.drop (a + i)) : Nat) : Int) := by
 intro r
 induction r with
 | zero =>
  intro i hi hi2
  refine Ev.step (f := fun _ => some (i : Int)) (fun k => ?_) ?_
  ·simp only [environref03_digits.l0]; rw [t64 (by omega) (by omega), if_neg (by rw [B_size]; omega)]
  ·rw [List.drop_eq_nil_of_le (by omega), nd_nil]; exact Ev.now _
 | succ r ih =>
  intro i hi hi2
  have hi' : a + i < l.length := by omega
  have hb := B_at hi'
  have hn := nd_at hi'
  have ih := ih (i + 1) (by omega) (by omega)
  have hw : wrap64 ((a : Int) + (i : Int)) = ((a + i : Nat) : Int) := by rw [t64 (by omega) (by omega)]; omega
  by_cases hc : isd l[a + i] = true
  ·have hd := of_decide_eq_true hc
   rw [if_pos hc] at hn
   rw [show i + nd (l.drop (a + i)) = i + 1 + nd (l.drop (a + (i + 1))) by rw [hn, Nat.add_assoc a]; omega]
   refine Ev.step (fun k => ?_) ih
   simp only [environref03_digits.l0]
   unfold environref03_digit.f
   rw [hw, B_size, if_pos (by omega), if_pos (by omega), hb, if_pos (by omega), decide_eq_true (by omega), Option.bind_some, if_pos rfl, t64 (by omega) (by omega)]; rfl
  ·have hd : ¬ (48 ≤ (l[a + i]).toNat ∧ (l[a + i]).toNat ≤ 57) := fun h => hc (decide_eq_true h)
   rw [if_neg hc] at hn
   rw [show i + nd (l.drop (a + i)) = i by omega]
   refine Ev.step (f := fun _ => some (i : Int)) (fun k => ?_) (Ev.now _)
   simp only [environref03_digits.l0]
   unfold environref03_digit.f
   rw [hw, B_size, if_pos (by omega), if_pos (by omega), hb]
   by_cases h1 : ((l[a + i]).toNat : Int) ≥ 48
   ·rw [if_pos h1, decide_eq_false (by omega), Option.bind_some, if_neg (by simp)]
   ·rw [if_neg h1, Option.bind_some, if_neg (by simp)]
theorem rdig_ev {l : List UInt8} (hl : l.length ≤ 100000) {a : Nat} (ha : a ≤ 100000) : Ev (fun k => environref03_digits.f k (B l) (a : Int)) ((nd (l.drop a) : Nat) : Int) := by
 have := rdig_loop hl a ha (l.length - a) 0 (by omega) (by omega)
 rw [Nat.add_zero, Nat.zero_add] at this
 exact this
theorem ib_mem2 (l : List UInt8) (c : UInt8) : 0 ≤ Lib.indexByte l c ↔ c ∈ l := by
 induction l with
 | nil => simp [Lib.indexByte]
 | cons b l ih =>
  have hg := Lib.indexByte_ge l c
  rw [Lib.indexByte]
  by_cases hb : b = c
  ·subst hb; simp
  ·rw [if_neg (by simpa using hb)]
   rw [List.mem_cons, ← ih]
   have hb' : ¬ c = b := fun h => hb h.symm
   by_cases h1 : Lib.indexByte l c = -1
   ·rw [if_pos (by rw [h1]; rfl), h1]; simp [hb']
   ·rw [if_neg (by simpa using h1)]; simp only [hb', false_or]; omega
theorem ib_is (s : List UInt8) (c : UInt8) : ∃ t, strings_IndexByte.f (B s) (c.toNat : Int) = some t ∧ (t ≥ 0 ↔ c ∈ s) := by
 refine ⟨_, rfl, ?_⟩
 have e : ((c.toNat : Int).toNat).toUInt8 = c := by rw [Int.toNat_natCast]; exact UInt8.ofNat_toNat
 rw [e, B_list]; exact ib_mem2 s c
def blanks : List UInt8 := [9, 10, 12, 32]
def nb (l : List UInt8) : Nat := (l.takeWhile (blanks.contains ·)).length
theorem nb_le (l : List UInt8) : nb l ≤ l.length := (List.takeWhile_sublist _).length_le
theorem nb_at {l : List UInt8} {i : Nat} (h : i < l.length) : nb (l.drop i) = if l[i] ∈ blanks then nb (l.drop (i + 1)) + 1 else 0 := by
 rw [List.drop_eq_getElem_cons h]
 unfold nb; rw [List.takeWhile_cons]
 by_cases hm : l[i] ∈ blanks
 ·rw [if_pos hm, if_pos (by simpa using hm)]; rfl
 ·rw [if_neg hm, if_neg (by simpa using hm)]; rfl
theorem nb_nil : nb [] = 0 := rfl
def startL (signs l : List UInt8) : Int × Bool × Int := if nb l = l.length then ((nb l : Int), false, 16) else if l.getD (nb l) 0 ∈ signs then (((nb l + 1 : Nat) : Int), l.getD (nb l) 0 == 45, 0) else ((nb l : Int), false, 0)
theorem getD_at {l : List UInt8} {i : Nat} (h : i < l.length) : l.getD i 0 = l[i] := by simp [List.getD, h]
theorem b45 (c : UInt8) : ((c.toNat : Int) == 45) = (c == 45) := by
 rw [Bool.eq_iff_iff, beq_iff_eq, beq_iff_eq]; exact u8_eq c 45
theorem pstart_j1 {l signs : List UInt8} {i : Nat} (hl : l.length ≤ 100000) (hn : nb (l.drop i) = 0) (hi : i ≤ l.length) (hx : nb l = i) : Ev (fun k => texts_start.j1 k (B l) (B signs) (i : Int) false) (startL signs l) := by
 unfold startL
 rw [hx]
 by_cases h : i = l.length
 ·rw [if_pos h]
  refine Ev.step (f := fun _ => some ((i : Int), false, 16)) (fun k => ?_) (Ev.now _)
  simp only [texts_start.j1]; rw [if_pos (by rw [B_size]; omega)]
 ·have hi' : i < l.length := by omega
  have hb := B_at hi'
  obtain ⟨t, ht, ht2⟩ := ib_is signs l[i]
  rw [if_neg h, getD_at hi']
  by_cases hm : l[i] ∈ signs
  ·rw [if_pos hm]
   refine Ev.step (f := fun _ => some (((i + 1 : Nat) : Int), l[i] == 45, 0)) (fun k => ?_) (Ev.now _)
   simp only [texts_start.j1]
   rw [if_neg (by rw [B_size]; omega), if_pos (by omega), if_pos (by rw [B_size]; omega), hb, ht, Option.bind_some, if_pos (ht2.2 hm), t64 (by omega) (by omega), b45]; rfl
  ·rw [if_neg hm]
   refine Ev.step (f := fun _ => some ((i : Int), false, 0)) (fun k => ?_) (Ev.now _)
   simp only [texts_start.j1]
   rw [if_neg (by rw [B_size]; omega), if_pos (by omega), if_pos (by rw [B_size]; omega), hb, ht, Option.bind_some, if_neg (fun h => hm (ht2.1 h))]
theorem pstart_loop {l signs : List UInt8} (hl : l.length ≤ 100000) : ∀ r i : Nat, i + r = l.length → nb l = i + nb (l.drop i) → Ev (fun k => texts_start.l0 k (B l) (B signs) (i : Int) false) (startL signs l) := by
 intro r
 induction r with
 | zero =>
  intro i hi hx
  have h0 : nb (l.drop i) = 0 := by rw [List.drop_eq_nil_of_le (by omega), nb_nil]
  refine Ev.step (fun k => ?_) (pstart_j1 hl h0 (by omega) (by omega))
  simp only [texts_start.l0]; rw [if_neg (by rw [B_size]; omega)]
 | succ r ih =>
  intro i hi hx
  have hi' : i < l.length := by omega
  have hb := B_at hi'
  have hn := nb_at hi'
  have hbl : (⟨#[9, 10, 12, 32]⟩ : ByteArray) = B blanks := rfl
  obtain ⟨t, ht, ht2⟩ := ib_is blanks l[i]
  by_cases hc : l[i] ∈ blanks
  ·rw [if_pos hc] at hn
   refine Ev.step (fun k => ?_) (ih (i + 1) (by omega) (by omega))
   simp only [texts_start.l0]
   rw [B_size, if_pos (by omega), if_pos (by omega), hb, hbl, ht, Option.bind_some, if_pos (ht2.2 hc), t64 (by omega) (by omega)]; rfl
  ·rw [if_neg hc] at hn
   refine Ev.step (fun k => ?_) (pstart_j1 hl hn (by omega) (by omega))
   simp only [texts_start.l0]
   rw [B_size, if_pos (by omega), if_pos (by omega), hb, hbl, ht, Option.bind_some, if_neg (fun h => hc (ht2.1 h))]
theorem pstart_ev (signs : List UInt8) {l : List UInt8} (hl : l.length ≤ 100000) : Ev (fun k => texts_start.f k (B l) (B signs)) (startL signs l) :=
 pstart_loop hl l.length 0 (by omega) (by rw [List.drop_zero, Nat.zero_add])
theorem rskip_loop {l : List UInt8} (hl : l.length ≤ 100000) : ∀ r i : Nat, i + r = l.length → nb l = i + nb (l.drop i) → Ev (fun k => environref03_skip.l0 k (B l) (i : Int)) ((nb l : Nat) : Int) := by
 intro r
 induction r with
 | zero =>
  intro i hi hx
  have h0 : nb (l.drop i) = 0 := by rw [List.drop_eq_nil_of_le (by omega), nb_nil]
  refine Ev.step (f := fun _ => some (i : Int)) (fun k => ?_) (by rw [hx, h0]; exact Ev.now _)
  simp only [environref03_skip.l0]; rw [if_neg (by rw [B_size]; omega)]
 | succ r ih =>
  intro i hi hx
  have hi' : i < l.length := by omega
  have hb := B_at hi'
  have hn := nb_at hi'
  have hmem : l[i] ∈ blanks ↔ (l[i] = 9 ∨ l[i] = 10 ∨ l[i] = 12 ∨ l[i] = 32) := by unfold blanks; simp only [List.mem_cons, List.not_mem_nil, or_false]
  have hw : wrap64 ((i : Int) + 1) = ((i + 1 : Nat) : Int) := by rw [t64 (by omega) (by omega)]; omega
  by_cases hc : l[i] ∈ blanks
  ·rw [if_pos hc] at hn
   refine Ev.step (fun k => ?_) (ih (i + 1) (by omega) (by omega))
   simp only [environref03_skip.l0]
   rw [B_size, if_pos (by omega), if_pos (by omega), hb, hw]
   by_cases h32 : l[i] = 32
   ·rw [if_pos ((e32 _).2 h32)]
   ·rw [if_neg (fun h => h32 ((e32 _).1 h))]
    by_cases h9 : l[i] = 9
    ·rw [if_pos ((e9 _).2 h9)]
    ·rw [if_neg (fun h => h9 ((e9 _).1 h))]
     by_cases h10 : l[i] = 10
     ·rw [if_pos ((e10 _).2 h10)]
     ·rw [if_neg (fun h => h10 ((e10 _).1 h))]
      have h12 : l[i] = 12 := (((hmem.1 hc).resolve_left h9).resolve_left h10).resolve_right h32
      rw [if_pos ((e12 _).2 h12)]
  ·rw [if_neg hc] at hn
   refine Ev.step (f := fun _ => some (i : Int)) (fun k => ?_) (by rw [hx, hn]; exact Ev.now _)
   simp only [environref03_skip.l0]
   have hno := fun h => hc (hmem.2 h)
   rw [B_size, if_pos (by omega), if_pos (by omega), hb, if_neg (fun h => hno (.inr (.inr (.inr ((e32 _).1 h))))), if_neg (fun h => hno (.inl ((e9 _).1 h))), if_neg (fun h => hno (.inr (.inl ((e10 _).1 h)))), if_neg (fun h => hno (.inr (.inr (.inl ((e12 _).1 h)))))]
theorem rskip_ev {l : List UInt8} (hl : l.length ≤ 100000) : Ev (fun k => environref03_skip.f k (B l)) ((nb l : Nat) : Int) :=
 rskip_loop hl l.length 0 (by omega) (by rw [List.drop_zero, Nat.zero_add])
def signs2 : List UInt8 := [43, 45]
theorem rbegin_ev {l : List UInt8} (hl : l.length ≤ 100000) : Ev (fun k => environref03_begin.f k (B l)) (startL signs2 l) := by
 have hle := nb_le l
 unfold environref03_begin.f
 refine Ev.bind (rskip_ev hl) ?_
 unfold startL
 generalize nb l = i at *
 by_cases h : i = l.length
 ·rw [if_pos h]
  refine Ev.congr (f := fun _ => some ((i : Int), false, 16)) (fun k => ?_) (Ev.now _)
  rw [if_pos (by rw [B_size]; omega)]
 ·have hi' : i < l.length := by omega
  have hb := B_at hi'
  have hw : wrap64 ((i : Int) + 1) = ((i + 1 : Nat) : Int) := by rw [t64 (by omega) (by omega)]; omega
  rw [if_neg h, getD_at hi']
  refine Ev.congr (f := fun _ => some (if l[i] ∈ signs2 then (((i + 1 : Nat) : Int), l[i] == 45, 0) else ((i : Int), false, 0))) (fun k => ?_) (Ev.now _)
  rw [if_neg (by rw [B_size]; omega), if_pos (by omega), if_pos (by rw [B_size]; omega), hb, hw, b45]
  by_cases h1 : l[i] = 43
  ·rw [if_pos ((e43 _).2 h1), if_pos (by rw [h1]; decide)]
  ·rw [if_neg (fun h => h1 ((e43 _).1 h))]
   by_cases h2 : l[i] = 45
   ·rw [if_pos ((e45 _).2 h2), if_pos (by rw [h2]; decide)]
   ·rw [if_neg (fun h => h2 ((e45 _).1 h)), if_neg (by unfold signs2; simp [h1, h2])]
theorem ev_of {α β : Type} {g : Nat → Option α} {G : Nat → Option β} {a : α} {r : β} (h : Ev g a) (hG : ∀ n, g n = some a → G n = some r) : Ev G r := by
 obtain ⟨K, hK⟩ := h; exact ⟨K, fun k hk => hG k (hK k hk)⟩
theorem ev_of2 {α β γ : Type} {g : Nat → Option α} {g' : Nat → Option γ} {G : Nat → Option β} {a : α} {a' : γ} {r : β} (h : Ev g a) (h' : Ev g' a') (hG : ∀ n, g n = some a → g' n = some a' → G n = some r) : Ev G r := by
 obtain ⟨K, hK⟩ := h; obtain ⟨L, hL⟩ := h'
 exact ⟨max K L, fun k hk => hG k (hK k (by omega)) (hL k (by omega))⟩
theorem ev_of3 {α β γ δ : Type} {g : Nat → Option α} {g' : Nat → Option γ} {g'' : Nat → Option δ} {G : Nat → Option β} {a : α} {a' : γ} {a'' : δ} {r : β} (h : Ev g a) (h' : Ev g' a') (h'' : Ev g'' a'') (hG : ∀ n, g n = some a → g' n = some a' → g'' n = some a'' → G n = some r) : Ev G r := by
 obtain ⟨K, hK⟩ := h; obtain ⟨L, hL⟩ := h'; obtain ⟨M, hM⟩ := h''
 exact ⟨max K (max L M), fun k hk => hG k (hK k (by omega)) (hL k (by omega)) (hM k (by omega))⟩
theorem all_tw (l : List UInt8) : (l.takeWhile isd).all isd = true := by
 induction l with
 | nil => rfl
 | cons c l ih => rw [List.takeWhile_cons]; split <;> simp_all
theorem nd_all {D : List UInt8} (h : D.all isd = true) : nd D = D.length := by
 induction D with
 | nil => rfl
 | cons c r ih =>
  rw [List.all_cons, Bool.and_eq_true] at h
  rw [nd_cons, if_pos h.1, ih h.2, List.length_cons]
theorem nat_l1_eq : ∀ (k : Nat) (x : List Int), environref03_nat.l1 k x = environref02_trim.l0 k x
 | 0, _ => rfl
 | k + 1, x => by simp only [environref03_nat.l1, environref02_trim.l0, nat_l1_eq k]
def lowR (D : List UInt8) : List Int := (D.map fun c => (c.toNat : Int) - 48).reverse
theorem lowR_cons (c : UInt8) (r : List UInt8) : lowR (c :: r) = lowR r ++ [(c.toNat : Int) - 48] := by unfold lowR; rw [List.map_cons, List.reverse_cons]
theorem lowR_len (D : List UInt8) : (lowR D).length = D.length := by unfold lowR; rw [List.length_reverse, List.length_map]
theorem dval_from (l : List UInt8) : ∀ a : Nat, l.foldl (fun n c => 10 * n + (c.toNat - 48)) a = a * 10 ^ l.length + dval l := by
 induction l with
 | nil => intro a; simp [dval]
 | cons c r ih =>
  intro a
  have e : dval (c :: r) = (c.toNat - 48) * 10 ^ r.length + dval r := by
   show List.foldl _ (10 * 0 + (c.toNat - 48)) r = _
   rw [ih]; simp
  rw [List.foldl_cons, ih, e, List.length_cons, Nat.pow_succ, Nat.add_mul, Nat.mul_comm 10 a, Nat.mul_assoc, Nat.mul_comm 10]; omega
theorem dval_cons (c : UInt8) (r : List UInt8) : dval (c :: r) = (c.toNat - 48) * 10 ^ r.length + dval r := by
 show List.foldl _ (10 * 0 + (c.toNat - 48)) r = _
 rw [dval_from]; simp
theorem lowR_Dg {D : List UInt8} (h : D.all isd = true) : Rr.Dg (lowR D) := by
 intro x hx
 unfold lowR at hx
 rw [List.mem_reverse, List.mem_map] at hx
 obtain ⟨c, hc, rfl⟩ := hx
 have := of_decide_eq_true (List.all_eq_true.1 h c hc)
 omega
theorem lowR_vl : ∀ {D : List UInt8}, D.all isd = true → Rr.vl (lowR D) = dval D
 | [], _ => rfl
 | c :: r, h => by
  rw [List.all_cons, Bool.and_eq_true] at h
  have := of_decide_eq_true h.1
  rw [lowR_cons, Rr.vl_snoc, lowR_vl h.2, dval_cons, lowR_len, show ((c.toNat : Int) - 48).toNat = c.toNat - 48 by omega, Nat.mul_comm, Nat.add_comm]
theorem nat_l0 {D : List UInt8} (h : D.all isd = true) (hl : D.length ≤ 100000) : ∀ i : Nat, i ≤ D.length → Ev (fun k => environref03_nat.l0 k (B D) (lowR (D.drop i)) ((i : Int) - 1)) (Rr.dl (dval D)) := by
 intro i
 induction i with
 | zero =>
  intro _
  refine Ev.step (f := fun k => environref02_trim.l0 k (lowR D)) (fun k => ?_) ?_
  ·simp only [environref03_nat.l0]; rw [if_neg (by omega), List.drop_zero, nat_l1_eq]
  ·have := Rr.trim_is (l := lowR D) (by rw [lowR_len]; omega) (lowR_Dg h)
   rw [lowR_vl h] at this
   exact this
 | succ i ih =>
  intro hi
  have hi' : i < D.length := by omega
  have hc := of_decide_eq_true (List.all_eq_true.1 h D[i] (List.getElem_mem ..))
  have e1 : ((i + 1 : Nat) : Int) - 1 = (i : Int) := by omega
  refine Ev.step (fun k => ?_) (ih (by omega))
  simp only [environref03_nat.l0]
  rw [e1, B_size, if_pos (by omega), if_pos (by omega), if_pos (by omega), if_pos (by rw [lowR_len, List.length_drop]; omega), B_at hi', t64 (by omega) (by omega), show (((D[i]).toNat : Int) - 48) % 256 = ((D[i]).toNat : Int) - 48 by omega, ← lowR_cons, ← List.drop_eq_getElem_cons hi']
theorem nat_ev {D : List UInt8} (h : D.all isd = true) (hl : D.length ≤ 100000) : Ev (fun k => environref03_nat.f k (B D)) (Rr.dl (dval D)) := by
 have := nat_l0 h hl D.length (Nat.le_refl _)
 rw [List.drop_length] at this
 refine Ev.congr (fun k => ?_) this
 unfold environref03_nat.f; rw [B_size, t64 (by omega) (by omega)]; rfl
theorem rd_dl {n i : Nat} (h : i < (Rr.dl n).length) : rd (Rr.dl n) (i : Int) = ((n / 10 ^ i % 10 : Nat) : Int) := by
 unfold rd; rw [Int.toNat_natCast]
 have := Rr.dl_get h
 rw [← this]; simp [List.getD, h]
theorem value_l0 (n : Nat) (hn : n < 1000000000000000000) : ∀ j : Nat, j ≤ (Rr.dl n).length → Ev (fun k => environref03_value.l0 k (Rr.dl n) ((n / 10 ^ j : Nat) : Int) ((j : Int) - 1)) (n : Int) := by
 intro j
 have hl : (Rr.dl n).length ≤ 18 := by rw [Rr.len_dl]; exact Rr.dg_le_iff.2 hn
 induction j with
 | zero =>
  intro _
  refine Ev.step (f := fun _ => some (n : Int)) (fun k => ?_) (Ev.now _)
  simp only [environref03_value.l0]; rw [if_neg (by omega), Nat.pow_zero, Nat.div_one]
 | succ j ih =>
  intro hj
  have e : ((j + 1 : Nat) : Int) - 1 = (j : Int) := by omega
  have rb := rd_dl (n := n) (i := j) (by omega)
  have hq : n / 10 ^ j ≤ n := Nat.div_le_self _ _
  have sd := Rr.div_succ n j
  have ih := ih (by omega)
  rw [e, sd]
  clear sd e
  generalize n / 10 ^ j = q at *
  refine Ev.step (fun k => ?_) ih
  simp only [environref03_value.l0]; rw [if_pos (by omega), if_pos (by omega), if_pos (by omega), rb, t64 (n := 10 * ((q / 10 : Nat) : Int)) (by omega) (by omega), t64 (n := 10 * ((q / 10 : Nat) : Int) + ((q % 10 : Nat) : Int)) (by omega) (by omega), t64 (n := (j : Int) - 1) (by omega) (by omega)]
  congr 1; omega
def valueL (n : Nat) : Int := if n < 1000000000000000000 then (n : Int) else 1000000000000000000
theorem value_ev {D : List UInt8} (h : D.all isd = true) (hl : D.length ≤ 100000) : Ev (fun k => environref03_value.f k (B D)) (valueL (dval D)) := by
 unfold environref03_value.f valueL
 refine Ev.bind (nat_ev h hl) ?_
 have hlen := Rr.len_dl (dval D)
 have hiff := Rr.dg_le_iff (n := dval D) (k := 18)
 by_cases hn : dval D < 1000000000000000000
 ·have hd : dg (dval D) ≤ 18 := hiff.2 hn
  have := value_l0 (dval D) hn (Rr.dl (dval D)).length (Nat.le_refl _)
  rw [Rr.dl_len_le (Nat.le_refl _)] at this
  rw [if_pos hn]
  refine Ev.congr (fun k => ?_) this
  rw [if_neg (by omega), t64 (by omega) (by omega)]; rfl
 ·have hd : ¬ dg (dval D) ≤ 18 := fun h => hn (hiff.1 h)
  rw [if_neg hn]
  refine Ev.congr (f := fun _ => some 1000000000000000000) (fun k => ?_) (Ev.now _)
  rw [if_pos (by omega)]
def intL (M : Int) (D : List UInt8) : Int × Int := if D = [] then (0, 9) else if (dval D : Int) ≤ M then ((dval D : Int), 0) else (0, 11)
theorem number_is {D : List UInt8} {M : Int} (h : D.all isd = true) (hl : D.length ≤ 100000) (h9 : 9 ≤ M) (hM : M ≤ 4611686018427387904) : texts_number.f (B D) 10 M = if (dval D : Int) ≤ M then some ((dval D : Int), true) else some (0, false) := by
 unfold texts_number.f
 rw [if_pos ⟨h, rfl, h9, hM, by rw [B_size]; omega⟩]; rfl
theorem pint_ev {s M : Int} {D : List UInt8} (hs : ints_Max.f s = some (M, 0)) (h9 : 9 ≤ M) (hM : M ≤ 999999999999999999) (h : D.all isd = true) (hl : D.length ≤ 100000) : Ev (fun k => texts_Int.f k s (B D)) (intL M D) := by
 unfold texts_Int.f intL
 by_cases hD : D = []
 ·rw [if_pos hD]; subst hD
  refine Ev.congr (f := fun k => texts_Int.j0 k (B []) M true) (fun k => ?_) (Ev.step (f := fun _ => some (0, 9)) (fun k => ?_) (Ev.now _))
  ·rw [hs, Option.bind_some, if_pos (by trivial), if_pos (B_toList [])]
  ·simp only [texts_Int.j0]; rw [if_pos trivial]
 ·rw [if_neg hD]
  have hne : ¬ (B D).toList = ([] : List UInt8) := by rw [B_toList]; exact hD
  have hd := pdig_ev hl
  rw [nd_all h] at hd
  refine Ev.congr (f := fun k => (texts_digits.f k (B D)).bind fun t => texts_Int.j0 k (B D) M (decide (t < (((B D).size : Nat) : Int)))) (fun k => ?_) (Ev.bind hd ?_)
  ·rw [hs, Option.bind_some, if_pos (by trivial), if_neg hne]
  refine Ev.step (f := fun _ => some (if (dval D : Int) ≤ M then ((dval D : Int), 0) else (0, 11))) (fun k => ?_) (Ev.now _)
  simp only [texts_Int.j0]
  rw [decide_eq_false (by rw [B_size]; omega), if_neg (by simp), number_is h hl h9 (by omega)]
  by_cases hv : (dval D : Int) ≤ M
  ·rw [if_pos hv, if_pos hv, Option.bind_some, if_pos rfl]
  ·rw [if_neg hv, if_neg hv, Option.bind_some, if_neg (by simp)]
theorem rint_ev {s M : Int} {D : List UInt8} (hs : environref01_Max.f s = some (M, 0)) (h9 : 9 ≤ M) (hM : M ≤ 999999999999999999) (h : D.all isd = true) (hl : D.length ≤ 100000) : Ev (fun k => environref03_Int.f k s (B D)) (intL M D) := by
 unfold environref03_Int.f intL
 by_cases hD : D = []
 ·rw [if_pos hD]; subst hD
  refine Ev.congr (f := fun k => environref03_Int.j0 k s (B []) true) (fun k => ?_) (Ev.step (f := fun _ => some (0, 9)) (fun k => ?_) (Ev.now _))
  ·rw [hs, Option.bind_some, if_pos (by trivial), if_pos (by rfl)]
  ·simp only [environref03_Int.j0]; rw [if_pos trivial]
 ·rw [if_neg hD]
  have hlp : 0 < D.length := List.length_pos_iff.2 hD
  have hd := rdig_ev hl (a := 0) (by omega)
  rw [List.drop_zero, nd_all h] at hd
  refine Ev.congr (f := fun k => (environref03_digits.f k (B D) 0).bind fun t => environref03_Int.j0 k s (B D) (t != (((B D).size : Nat) : Int))) (fun k => ?_) (Ev.bind hd ?_)
  ·rw [hs, Option.bind_some, if_pos (by trivial), if_neg (by rw [B_size]; omega)]
  refine Ev.step (f := fun k => (environref03_value.f k (B D)).bind fun t518 => (environref01_Is.f s t518).bind fun t519 => if t519 = true then some (t518, 0) else some (0, 11)) (fun k => ?_) (Ev.bind (value_ev h hl) ?_)
  ·have : (((D.length : Nat) : Int) != (((B D).size : Nat) : Int)) = false := by rw [B_size]; simp
   simp only [environref03_Int.j0]
   rw [this, if_neg (by simp)]
  have hI : environref01_Is.f s (valueL (dval D)) = some (decide ((dval D : Int) ≤ M)) := by
   unfold environref01_Is.f valueL
   rw [hs, Option.bind_some, if_pos (by trivial)]
   have hw : wrap64 (-M) = -M := t64 (by omega) (by omega)
   show (if (if dval D < 1000000000000000000 then ((dval D : Nat) : Int) else 1000000000000000000) ≥ wrap64 (-M) then some (decide ((if dval D < 1000000000000000000 then ((dval D : Nat) : Int) else 1000000000000000000) ≤ M)) else some false) = _
   rw [hw]
   by_cases hn : dval D < 1000000000000000000
   ·rw [if_pos hn, if_pos (by omega)]
   ·rw [if_neg hn, if_pos (by omega), decide_eq_false (by omega), decide_eq_false (by omega)]
  refine Ev.congr (f := fun _ => some (if (dval D : Int) ≤ M then ((dval D : Int), 0) else (0, 11))) (fun k => ?_) (Ev.now _)
  rw [hI, Option.bind_some]
  by_cases hv : (dval D : Int) ≤ M
  ·have : valueL (dval D) = (dval D : Int) := by unfold valueL; rw [if_pos (by omega)]
   rw [decide_eq_true hv, if_pos rfl, if_pos hv, this]
  ·rw [decide_eq_false hv, if_neg (by simp), if_neg hv]
theorem startL_spec (signs l : List UInt8) : (∃ (a : Nat) (b : Bool), startL signs l = ((a : Int), b, 0) ∧ a ≤ l.length) ∨ (∃ a : Nat, startL signs l = ((a : Int), false, 16)) := by
 have hle := nb_le l
 unfold startL
 split
 ·exact .inr ⟨_, rfl⟩
 ·split
  ·exact .inl ⟨_, _, rfl, by omega⟩
  ·exact .inl ⟨_, _, rfl, hle⟩
theorem B_ext (l : List UInt8) (i j : Nat) : (B l).extract i j = B ((l.drop i).take (j - i)) := by
 apply ByteArray.ext
 rw [ByteArray.data_extract]
 show l.toArray.extract i j = ((l.drop i).take (j - i)).toArray
 rw [List.extract_toArray]
theorem B_from (l : List UInt8) (a : Nat) : (B l).extract a (B l).size = B (l.drop a) := by
 rw [B_ext, B_size, List.take_of_length_le (by rw [List.length_drop]; exact Nat.le_refl _)]
theorem B_part (l : List UInt8) (a n : Nat) : (B l).extract a (a + n) = B ((l.drop a).take n) := by
 rw [B_ext, Nat.add_sub_cancel_left]
def maxI (s : Int) : Int := if s = -1 then 32767 else if s = 0 then 2147483647 else 999999999999999999
def szOk (s : Int) : Prop := s = -1 ∨ s = 0 ∨ s = 1
theorem maxI_bd (s : Int) : 9 ≤ maxI s ∧ maxI s ≤ 999999999999999999 := by unfold maxI; split <;> (try split) <;> omega
theorem pmax_ok {s : Int} (h : szOk s) : ints_Max.f s = some (maxI s, 0) := by
 unfold maxI
 rcases h with rfl | rfl | rfl <;> rfl
theorem rmax_ok {s : Int} (h : szOk s) : environref01_Max.f s = some (maxI s, 0) := by
 unfold maxI
 rcases h with rfl | rfl | rfl <;> rfl
theorem sz_no {s : Int} (h : ¬ szOk s) : ¬ s = -1 ∧ ¬ s = 0 ∧ ¬ s = 1 := ⟨fun e => h (.inl e), fun e => h (.inr (.inl e)), fun e => h (.inr (.inr e))⟩
theorem pmax_no {s : Int} (h : ¬ szOk s) : ints_Max.f s = some (0, 1) := by
 have := sz_no h
 unfold ints_Max.f ints_of.f; rw [if_neg this.1, if_neg this.2.1, if_neg this.2.2]; rfl
theorem rmax_no {s : Int} (h : ¬ szOk s) : environref01_Max.f s = some (0, 1) := by
 have := sz_no h
 unfold environref01_Max.f; rw [if_neg this.1, if_neg this.2.1, if_neg this.2.2]
theorem psize_ok {s : Int} (h : szOk s) : texts_size.f s = some 0 := by unfold texts_size.f; rw [pmax_ok h]; rfl
theorem psize_no {s : Int} (h : ¬ szOk s) : texts_size.f s = some 1 := by unfold texts_size.f; rw [pmax_no h]; rfl
def readI (M : Int) (l : List UInt8) (a : Nat) (b : Bool) : Int × Int × Int :=
 let r := intL M ((l.drop a).takeWhile isd)
 (if b = true then wrap64 (-r.1) else r.1, ((a + nd (l.drop a) : Nat) : Int), r.2)
theorem readint_both {s : Int} {l : List UInt8} (hl : l.length ≤ 10000) : ∃ r, Ev (fun k => texts_ReadInt.f k s (B l)) r ∧ Ev (fun k => environref03_ReadInt.f k s (B l)) r := by
 have hp := pstart_ev signs2 (l := l) (by omega)
 have hr := rbegin_ev (l := l) (by omega)
 have hsg : (⟨#[43, 45]⟩ : ByteArray) = B signs2 := rfl
 unfold texts_ReadInt.f environref03_ReadInt.f
 by_cases hs : szOk s
 ·have hM := maxI_bd s
  rw [psize_ok hs, rmax_ok hs, hsg]
  rcases startL_spec signs2 l with ⟨a, b, h, ha⟩ | ⟨a, h⟩
  ·rw [h] at hp hr
   have hD := all_tw (l.drop a)
   have hDl : ((l.drop a).takeWhile isd).length = nd (l.drop a) := rfl
   have hndl := nd_le (l.drop a)
   rw [List.length_drop] at hndl
   have hdp := pdig_ev (l := l.drop a) (by rw [List.length_drop]; omega)
   have hdr := rdig_ev (l := l) (by omega) (a := a) (by omega)
   have hpi := pint_ev (pmax_ok hs) hM.1 hM.2 hD (by omega)
   have hri := rint_ev (rmax_ok hs) hM.1 hM.2 hD (by omega)
   have hx := B_part l a (nd (l.drop a))
   rw [nd_take] at hx
   have hw : wrap64 ((a : Int) + ((nd (l.drop a) : Nat) : Int)) = ((a + nd (l.drop a) : Nat) : Int) := by rw [t64 (by omega) (by omega)]; omega
   refine ⟨readI (maxI s) l a b, ?_, ?_⟩
   ·refine ev_of3 hp hdp hpi (fun n e1 e2 e3 => ?_)
    rw [Option.bind_some, if_pos rfl, e1, Option.bind_some, if_pos (by trivial), if_pos (by omega), if_pos (by rw [B_size]; omega), Int.toNat_natCast, B_from, e2, Option.bind_some, hw, if_pos (by omega), if_pos (by rw [B_size]; omega), Int.toNat_natCast, hx, e3, Option.bind_some]
    unfold readI
    cases b <;> rfl
   ·refine ev_of3 hr hdr hri (fun n e1 e2 e3 => ?_)
    rw [Option.bind_some, if_pos rfl, e1, Option.bind_some, if_pos (by trivial), e2, Option.bind_some]
    by_cases hz : nd (l.drop a) = 0
    ·have h0 : (l.drop a).takeWhile isd = [] := List.length_eq_zero_iff.1 (by omega)
     have e9 : intL (maxI s) [] = (0, 9) := rfl
     have hw0 : wrap64 (-0) = 0 := t64 (by decide) (by decide)
     rw [if_pos (by omega)]
     unfold readI; rw [h0, hz, e9]
     cases b
     ·rfl
     ·show _ = some (wrap64 (-0), ((a + 0 : Nat) : Int), (9 : Int))
      rw [hw0]; rfl
    rw [if_neg (by omega), if_pos (by omega), hw, if_pos (by omega), if_pos (by rw [B_size]; omega), Int.toNat_natCast, Int.toNat_natCast, hx, e3, Option.bind_some]
    unfold readI
    cases b <;> rfl
  ·rw [h] at hp hr
   refine ⟨(0, (a : Int), 16), ?_, ?_⟩
   ·refine ev_of hp (fun n e1 => ?_)
    rw [Option.bind_some, if_pos rfl, e1, Option.bind_some, if_neg (show ¬ ((16 : Int) = 0) by decide)]
   ·refine ev_of hr (fun n e1 => ?_)
    rw [Option.bind_some, if_pos rfl, e1, Option.bind_some, if_neg (show ¬ ((16 : Int) = 0) by decide)]
 ·refine ⟨(0, 0, 1), ?_, ?_⟩
  ·rw [psize_no hs]
   refine Ev.congr (f := fun _ => some (0, 0, 1)) (fun k => ?_) (Ev.now _)
   rw [Option.bind_some, if_neg (by decide)]
  ·rw [rmax_no hs]
   refine Ev.congr (f := fun _ => some (0, 0, 1)) (fun k => ?_) (Ev.now _)
   rw [Option.bind_some, if_neg (by decide)]
def rwL (l : List UInt8) : Nat → Nat → Int → Int × Int × Int
 | 0, a, w => (w, (a : Int), 0)
 | r + 1, a, w =>
  if a = l.length then (0, (a : Int), 9)
  else if l.getD a 0 = 84 then rwL l r (a + 1) (wrap64 (wrap64 (2 * w) + 1))
  else if l.getD a 0 = 70 then rwL l r (a + 1) (wrap64 (2 * w))
  else (0, (a : Int), 9)
theorem pword_loop {l : List UInt8} (hl : l.length ≤ 100000) (n : Nat) (hn : n ≤ 100) : ∀ (r i a : Nat) (w : Int), i + r = n → a ≤ l.length → Ev (fun k => texts_ReadWord.l0 k (B l) (a : Int) w (n : Int) (i : Int)) (rwL l r a w) := by
 intro r
 induction r with
 | zero =>
  intro i a w hi ha
  refine Ev.step (f := fun _ => some (w, (a : Int), 0)) (fun k => ?_) (Ev.now _)
  simp only [texts_ReadWord.l0]; rw [if_neg (by omega)]
 | succ r ih =>
  intro i a w hi ha
  rw [rwL]
  have bad : Ev (fun k => texts_ReadWord.j1 k (B l) (a : Int) w (n : Int) (i : Int) true) (0, (a : Int), 9) := by
   refine Ev.step (f := fun _ => some (0, (a : Int), 9)) (fun k => ?_) (Ev.now _)
   simp only [texts_ReadWord.j1]; rw [if_pos trivial]
  by_cases h : a = l.length
  ·rw [if_pos h]
   refine Ev.step (fun k => ?_) bad
   simp only [texts_ReadWord.l0]; rw [if_pos (by omega), if_pos (by rw [B_size]; omega)]
  ·have ha' : a < l.length := by omega
   have hb := B_at ha'
   have hw : wrap64 ((a : Int) + 1) = ((a + 1 : Nat) : Int) := by rw [t64 (by omega) (by omega)]; omega
   have hi1 : wrap64 ((i : Int) + 1) = ((i + 1 : Nat) : Int) := by rw [t64 (by omega) (by omega)]; omega
   rw [if_neg h, getD_at ha']
   by_cases h84 : l[a] = 84
   ·rw [if_pos h84]
    refine Ev.step (f := fun k => texts_ReadWord.j1 k (B l) (a : Int) w (n : Int) (i : Int) false) (fun k => ?_) (Ev.step (fun k => ?_) (ih (i + 1) (a + 1) (wrap64 (wrap64 (2 * w) + 1)) (by omega) (by omega)))
    ·simp only [texts_ReadWord.l0]
     rw [if_pos (by omega), if_neg (by rw [B_size]; omega), if_pos (by omega), if_pos (by rw [B_size]; omega), hb, if_pos ((e84 _).2 h84)]
    ·simp only [texts_ReadWord.j1]
     rw [if_neg (by simp), if_pos (by omega), if_pos (by rw [B_size]; omega), hb, if_pos ((e84 _).2 h84), hw, hi1, Int.mul_comm w 2]
   ·rw [if_neg h84]
    have hst : texts_ReadWord.l0 = texts_ReadWord.l0 := rfl
    by_cases h70 : l[a] = 70
    ·rw [if_pos h70]
     refine Ev.step (f := fun k => texts_ReadWord.j1 k (B l) (a : Int) w (n : Int) (i : Int) false) (fun k => ?_) (Ev.step (fun k => ?_) (ih (i + 1) (a + 1) (wrap64 (2 * w)) (by omega) (by omega)))
     ·simp only [texts_ReadWord.l0]
      have : (((l[a]).toNat : Int) != 70) = false := by rw [(e70 _).2 h70]; rfl
      rw [if_pos (by omega), if_neg (by rw [B_size]; omega), if_pos (by omega), if_pos (by rw [B_size]; omega), hb, if_neg (fun h => h84 ((e84 _).1 h)), this]
     ·simp only [texts_ReadWord.j1]
      rw [if_neg (by simp), if_pos (by omega), if_pos (by rw [B_size]; omega), hb, if_neg (fun h => h84 ((e84 _).1 h)), hw, hi1, Int.mul_comm w 2]
    ·rw [if_neg h70]
     refine Ev.step (fun k => ?_) bad
     simp only [texts_ReadWord.l0]
     have : (((l[a]).toNat : Int) != 70) = true := by rw [bne_iff_ne]; exact fun h => h70 ((e70 _).1 h)
     rw [if_pos (by omega), if_neg (by rw [B_size]; omega), if_pos (by omega), if_pos (by rw [B_size]; omega), hb, if_neg (fun h => h84 ((e84 _).1 h)), this]
theorem rword_loop2 {l : List UInt8} (hl : l.length ≤ 100000) (n : Nat) (hn : n ≤ 100) (a0 : Nat) : ∀ (r i : Nat) (w : Int), i + r = n → a0 + i ≤ l.length → Ev (fun k => environref03_ReadWord.l0 k (B l) (n : Int) (a0 : Int) w (i : Int)) (rwL l r (a0 + i) w) := by
 intro r
 induction r with
 | zero =>
  intro i w hi ha
  refine Ev.step (f := fun _ => some (w, ((a0 + i : Nat) : Int), 0)) (fun k => ?_) (Ev.now _)
  simp only [environref03_ReadWord.l0]; rw [if_neg (by omega), t64 (by omega) (by omega)]
  congr 3; omega
 | succ r ih =>
  intro i w hi ha
  rw [rwL]
  have haw : wrap64 ((a0 : Int) + (i : Int)) = ((a0 + i : Nat) : Int) := by rw [t64 (by omega) (by omega)]; omega
  have bad : Ev (fun k => environref03_ReadWord.j1 k (B l) (n : Int) (a0 : Int) w (i : Int) true) (0, ((a0 + i : Nat) : Int), 9) := by
   refine Ev.step (f := fun _ => some (0, ((a0 + i : Nat) : Int), 9)) (fun k => ?_) (Ev.now _)
   simp only [environref03_ReadWord.j1]; rw [if_pos trivial, haw]
  have hi1 : wrap64 ((i : Int) + 1) = ((i + 1 : Nat) : Int) := by rw [t64 (by omega) (by omega)]; omega
  by_cases h : a0 + i = l.length
  ·rw [if_pos h]
   refine Ev.step (fun k => ?_) bad
   simp only [environref03_ReadWord.l0]; rw [if_pos (by omega), haw, if_pos (by rw [B_size]; omega)]
  ·have ha' : a0 + i < l.length := by omega
   have hb := B_at ha'
   rw [if_neg h, getD_at ha']
   by_cases h84 : l[a0 + i] = 84
   ·rw [if_pos h84]
    refine Ev.step (f := fun k => environref03_ReadWord.j1 k (B l) (n : Int) (a0 : Int) w (i : Int) false) (fun k => ?_) (Ev.step (fun k => ?_) (ih (i + 1) (wrap64 (wrap64 (2 * w) + 1)) (by omega) (by omega)))
    ·simp only [environref03_ReadWord.l0]
     rw [if_pos (by omega), haw, if_neg (by rw [B_size]; omega), if_pos (by omega), if_pos (by rw [B_size]; omega), hb, if_pos ((e84 _).2 h84)]
    ·simp only [environref03_ReadWord.j1]
     rw [if_neg (by simp), haw, if_pos (by omega), if_pos (by rw [B_size]; omega), hb, if_pos ((e84 _).2 h84), hi1]
   ·rw [if_neg h84]
    by_cases h70 : l[a0 + i] = 70
    ·rw [if_pos h70]
     refine Ev.step (f := fun k => environref03_ReadWord.j1 k (B l) (n : Int) (a0 : Int) w (i : Int) false) (fun k => ?_) (Ev.step (fun k => ?_) (ih (i + 1) (wrap64 (2 * w)) (by omega) (by omega)))
     ·simp only [environref03_ReadWord.l0]
      have : (((l[a0 + i]).toNat : Int) != 70) = false := by rw [(e70 _).2 h70]; rfl
      rw [if_pos (by omega), haw, if_neg (by rw [B_size]; omega), if_pos (by omega), if_pos (by rw [B_size]; omega), hb, if_neg (fun h => h84 ((e84 _).1 h)), this]
     ·simp only [environref03_ReadWord.j1]
      rw [if_neg (by simp), haw, if_pos (by omega), if_pos (by rw [B_size]; omega), hb, if_neg (fun h => h84 ((e84 _).1 h)), hi1]
    ·rw [if_neg h70]
     refine Ev.step (fun k => ?_) bad
     simp only [environref03_ReadWord.l0]
     have : (((l[a0 + i]).toNat : Int) != 70) = true := by rw [bne_iff_ne]; exact fun h => h70 ((e70 _).1 h)
     rw [if_pos (by omega), haw, if_neg (by rw [B_size]; omega), if_pos (by omega), if_pos (by rw [B_size]; omega), hb, if_neg (fun h => h84 ((e84 _).1 h)), this]
def widI (s : Int) : Nat := if s = -1 then 16 else if s = 0 then 32 else 60
theorem widI_bd (s : Int) : widI s ≤ 60 := by unfold widI; split <;> (try split) <;> omega
theorem pwid_ok {s : Int} (h : szOk s) : ints_Width.f s = some ((widI s : Int), 0) := by
 unfold widI
 rcases h with rfl | rfl | rfl <;> rfl
theorem rwid_ok {s : Int} (h : szOk s) : environref01_Width.f s = some ((widI s : Int), 0) := by
 unfold widI
 rcases h with rfl | rfl | rfl <;> rfl
theorem pwid_no {s : Int} (h : ¬ szOk s) : ints_Width.f s = some (0, 1) := by
 have := sz_no h
 unfold ints_Width.f ints_of.f; rw [if_neg this.1, if_neg this.2.1, if_neg this.2.2]; rfl
theorem rwid_no {s : Int} (h : ¬ szOk s) : environref01_Width.f s = some (0, 1) := by
 have := sz_no h
 unfold environref01_Width.f; rw [if_neg this.1, if_neg this.2.1, if_neg this.2.2]
theorem readword_both {s : Int} {l : List UInt8} (hl : l.length ≤ 10000) : ∃ r, Ev (fun k => texts_ReadWord.f k s (B l)) r ∧ Ev (fun k => environref03_ReadWord.f k s (B l)) r := by
 have hp := pstart_ev [] (l := l) (by omega)
 have hr := rskip_ev (l := l) (by omega)
 have hle := nb_le l
 have hsg : (⟨#[]⟩ : ByteArray) = B [] := rfl
 unfold texts_ReadWord.f environref03_ReadWord.f
 by_cases hs : szOk s
 ·have hW := widI_bd s
  rw [pwid_ok hs, rwid_ok hs, hsg]
  unfold startL at hp
  generalize nb l = a at *
  by_cases h : a = l.length
  ·rw [if_pos h] at hp
   refine ⟨(0, (a : Int), 16), ?_, ?_⟩
   ·refine ev_of hp (fun n e1 => ?_)
    rw [Option.bind_some, if_pos rfl, e1, Option.bind_some, if_neg (show ¬ ((16 : Int) = 0) by decide)]
   ·refine ev_of hr (fun n e1 => ?_)
    rw [Option.bind_some, if_pos rfl, e1, Option.bind_some, if_pos (by rw [B_size]; omega)]
  ·rw [if_neg h, if_neg (by simp)] at hp
   have hpl := pword_loop (l := l) (by omega) (widI s) (by omega) (widI s) 0 a 0 (by omega) hle
   have hrl := rword_loop2 (l := l) (by omega) (widI s) (by omega) a (widI s) 0 0 (by omega) (by omega)
   rw [Nat.add_zero] at hrl
   refine ⟨rwL l (widI s) a 0, ?_, ?_⟩
   ·refine ev_of2 hp hpl (fun n e1 e2 => ?_)
    rw [Option.bind_some, if_pos rfl, e1, Option.bind_some, if_pos (by trivial)]
    exact e2
   ·refine ev_of2 hr hrl (fun n e1 e2 => ?_)
    rw [Option.bind_some, if_pos rfl, e1, Option.bind_some, if_neg (by rw [B_size]; omega)]
    exact e2
 ·refine ⟨(0, 0, 1), ?_, ?_⟩
  ·rw [pwid_no hs]
   refine Ev.congr (f := fun _ => some (0, 0, 1)) (fun k => ?_) (Ev.now _)
   rw [Option.bind_some, if_neg (by decide)]
  ·rw [rwid_no hs]
   refine Ev.congr (f := fun _ => some (0, 0, 1)) (fun k => ?_) (Ev.now _)
   rw [Option.bind_some, if_neg (by decide)]
def signL : List UInt8 → List UInt8
 | [] => []
 | c :: _ => if c = 43 ∨ c = 45 then [c] else []
def fracL : List UInt8 → List UInt8
 | [] => []
 | c :: v => if c = 46 then v.takeWhile isd else []
def expL : List UInt8 → List UInt8
 | [] => []
 | c :: v => if c = 101 then (if (v.drop (signL v).length).takeWhile isd = [] then [] else signL v ++ (v.drop (signL v).length).takeWhile isd) else []
def dotL (f : List UInt8) : List UInt8 := if f = [] then [] else 46 :: f
def exL (x : List UInt8) : List UInt8 := if x = [] then [] else 101 :: x
def partsL (l : List UInt8) : List UInt8 × List UInt8 × List UInt8 × Nat :=
 if l.takeWhile isd ++ fracL (l.drop (nd l)) = [] then ([], [], [], 0)
 else (l.takeWhile isd, fracL (l.drop (nd l)), expL (l.drop (nd l + (dotL (fracL (l.drop (nd l)))).length)), nd l + (dotL (fracL (l.drop (nd l)))).length + (exL (expL (l.drop (nd l + (dotL (fracL (l.drop (nd l)))).length)))).length)
theorem dotL_len (f : List UInt8) : (dotL f).length = if f = [] then 0 else f.length + 1 := by unfold dotL; split <;> simp
theorem exL_len (f : List UInt8) : (exL f).length = if f = [] then 0 else f.length + 1 := by unfold exL; split <;> simp
theorem nd_zero {l : List UInt8} : nd l = 0 ↔ l.takeWhile isd = [] := by unfold nd; exact List.length_eq_zero_iff
theorem signL_at {l : List UInt8} {i : Nat} (h : i < l.length) : signL (l.drop i) = if l[i] = 43 ∨ l[i] = 45 then [l[i]] else [] := by
 rw [List.drop_eq_getElem_cons h]; rfl
theorem signL_end {l : List UInt8} {i : Nat} (h : l.length ≤ i) : signL (l.drop i) = [] := by rw [List.drop_eq_nil_of_le h]; rfl
theorem fracL_at {l : List UInt8} {i : Nat} (h : i < l.length) : fracL (l.drop i) = if l[i] = 46 then (l.drop (i + 1)).takeWhile isd else [] := by
 rw [List.drop_eq_getElem_cons h]; rfl
theorem expL_at {l : List UInt8} {i : Nat} (h : i < l.length) : expL (l.drop i) = if l[i] = 101 then (if ((l.drop (i + 1)).drop (signL (l.drop (i + 1))).length).takeWhile isd = [] then [] else signL (l.drop (i + 1)) ++ ((l.drop (i + 1)).drop (signL (l.drop (i + 1))).length).takeWhile isd) else [] := by
 rw [List.drop_eq_getElem_cons h]; rfl
theorem pparts_j3 {l : List UInt8} (hl : l.length ≤ 10000) (w f : List UInt8) {n : Nat} (hn : n < l.length) (h101 : l[n] = 101) (b : Bool) (hb : b = decide (signL (l.drop (n + 1)) ≠ [])) :
  Ev (fun k => texts_parts.j3 k (B l) (B w) (B f) (B []) (n : Int) ((n + 1 : Nat) : Int) b) (B w, B f, B (expL (l.drop n)), ((n + (exL (expL (l.drop n))).length : Nat) : Int)) := by
 rw [exL_len, expL_at hn, if_pos h101]
 have hw1 : wrap64 ((n : Int) + 1) = ((n + 1 : Nat) : Int) := by rw [t64 (by omega) (by omega)]; omega
 cases b with
 | true =>
  have hs : signL (l.drop (n + 1)) ≠ [] := of_decide_eq_true hb.symm
  have hn1 : n + 1 < l.length := by
   rcases Nat.lt_or_ge (n + 1) l.length with h | h
   ·exact h
   ·exact absurd (signL_end h) hs
  have hsg : signL (l.drop (n + 1)) = [l[n + 1]] := by
   have := signL_at hn1
   rw [this] at hs ⊢
   split
   ·rfl
   ·rename_i h; rw [if_neg h] at hs; exact absurd rfl hs
  have hdd : (l.drop (n + 1)).drop 1 = l.drop (n + 2) := by rw [List.drop_drop]
  rw [hsg, List.length_singleton, hdd]
  have hd := pdig_ev (l := l.drop (n + 2)) (by rw [List.length_drop]; omega)
  have hz := nd_zero (l := l.drop (n + 2))
  have hnl := nd_le (l.drop (n + 2))
  have htk := nd_take (l.drop (n + 2))
  have hlen : ((l.drop (n + 2)).takeWhile isd).length = nd (l.drop (n + 2)) := rfl
  rw [List.length_drop] at hnl
  generalize (l.drop (n + 2)).takeWhile isd = d at *
  generalize hdn : nd (l.drop (n + 2)) = q at *
  have hw2 : wrap64 (((n + 1 : Nat) : Int) + 1) = ((n + 2 : Nat) : Int) := by rw [t64 (by omega) (by omega)]; omega
  have hw3 : wrap64 (((n + 2 : Nat) : Int) + (q : Int)) = ((n + 1 + (1 + q) : Nat) : Int) := by rw [t64 (by omega) (by omega)]; omega
  refine Ev.step (f := fun k => (texts_digits.f k (B (l.drop (n + 2)))).bind fun t194 => (if t194 > 0 then (if 0 ≤ ((n + 1 : Nat) : Int) then (if ((n + 1 : Nat) : Int) ≤ (wrap64 (((n + 2 : Nat) : Int) + t194)) then (if (wrap64 (((n + 2 : Nat) : Int) + t194)) ≤ (((B l).size : Nat) : Int) then (some (B w, B f, (B l).extract (((n + 1 : Nat) : Int)).toNat ((wrap64 (((n + 2 : Nat) : Int) + t194)) : Int).toNat, wrap64 (((n + 2 : Nat) : Int) + t194))) else (none)) else (none)) else (none)) else (some (B w, B f, B [], (n : Int))))) (fun k => ?_) (ev_of hd (fun k e1 => ?_))
  ·simp only [texts_parts.j3]
   rw [if_pos trivial, hw2, hw1, if_pos (by omega), if_pos (by rw [B_size]; omega), Int.toNat_natCast, B_from]
  ·rw [e1, Option.bind_some]
   by_cases hq : q = 0
   ·rw [if_neg (by omega), if_pos (hz.1 hq), if_pos rfl]; rfl
   ·have hne : d ≠ [] := fun h => hq (hz.2 h)
    have hne2 : [l[n + 1]] ++ d ≠ [] := by simp
    rw [if_pos (by omega), if_pos (by omega), hw3, if_pos (by omega), if_pos (by rw [B_size]; omega), if_neg hne, if_neg hne2, Int.toNat_natCast, Int.toNat_natCast, B_part]
    have hx : (l.drop (n + 1)).take (1 + q) = [l[n + 1]] ++ d := by
     rw [List.drop_eq_getElem_cons hn1, Nat.add_comm, List.take_succ_cons, show n + 1 + 1 = n + 2 from rfl, htk]; rfl
    have hlx : ([l[n + 1]] ++ d).length = 1 + q := by rw [List.length_append, hlen]; rfl
    rw [hx, hlx]; congr 4; omega
 | false =>
  have hs : signL (l.drop (n + 1)) = [] := by
   have := of_decide_eq_false hb.symm
   exact Decidable.of_not_not this
  rw [hs, List.length_nil, List.drop_zero, List.nil_append]
  have hd := pdig_ev (l := l.drop (n + 1)) (by rw [List.length_drop]; omega)
  have hz := nd_zero (l := l.drop (n + 1))
  have hnl := nd_le (l.drop (n + 1))
  have htk := nd_take (l.drop (n + 1))
  have hlen : ((l.drop (n + 1)).takeWhile isd).length = nd (l.drop (n + 1)) := rfl
  rw [List.length_drop] at hnl
  generalize (l.drop (n + 1)).takeWhile isd = d at *
  generalize hdn : nd (l.drop (n + 1)) = q at *
  have hw3 : wrap64 (((n + 1 : Nat) : Int) + (q : Int)) = ((n + 1 + q : Nat) : Int) := by rw [t64 (by omega) (by omega)]; omega
  refine Ev.step (f := fun k => (texts_digits.f k (B (l.drop (n + 1)))).bind fun t195 => (if t195 > 0 then (if 0 ≤ ((n + 1 : Nat) : Int) then (if ((n + 1 : Nat) : Int) ≤ (wrap64 (((n + 1 : Nat) : Int) + t195)) then (if (wrap64 (((n + 1 : Nat) : Int) + t195)) ≤ (((B l).size : Nat) : Int) then (some (B w, B f, (B l).extract (((n + 1 : Nat) : Int)).toNat ((wrap64 (((n + 1 : Nat) : Int) + t195)) : Int).toNat, wrap64 (((n + 1 : Nat) : Int) + t195))) else (none)) else (none)) else (none)) else (some (B w, B f, B [], (n : Int))))) (fun k => ?_) (ev_of hd (fun k e1 => ?_))
  ·simp only [texts_parts.j3]
   rw [if_neg (by simp), hw1, if_pos (by omega), if_pos (by rw [B_size]; omega), Int.toNat_natCast, B_from]
  ·rw [e1, Option.bind_some]
   by_cases hq : q = 0
   ·rw [if_neg (by omega), if_pos (hz.1 hq), if_pos rfl]; rfl
   ·have hne : d ≠ [] := fun h => hq (hz.2 h)
    rw [if_pos (by omega), if_pos (by omega), hw3, if_pos (by omega), if_pos (by rw [B_size]; omega), if_neg hne, if_neg hne, Int.toNat_natCast, Int.toNat_natCast, B_part, htk, hlen]
    congr 4; omega
theorem pparts_j2 {l : List UInt8} (hl : l.length ≤ 10000) (w f : List UInt8) {n : Nat} (hn : n ≤ l.length) (b : Bool) (hb : b = (decide (n < l.length) && l.getD n 0 == 101)) :
  Ev (fun k => texts_parts.j2 k (B l) (B w) (B f) (B []) (n : Int) b) (B w, B f, B (expL (l.drop n)), ((n + (exL (expL (l.drop n))).length : Nat) : Int)) := by
 have hw1 : wrap64 ((n : Int) + 1) = ((n + 1 : Nat) : Int) := by rw [t64 (by omega) (by omega)]; omega
 cases b with
 | true =>
  have hb := hb.symm
  rw [Bool.and_eq_true] at hb
  have hn' : n < l.length := of_decide_eq_true hb.1
  have h101 : l[n] = 101 := by have := hb.2; rw [getD_at hn'] at this; exact eq_of_beq this
  by_cases h1 : n + 1 < l.length
  ·have hbt := B_at h1
   by_cases h43 : l[n + 1] = 43
   ·refine Ev.step (fun k => ?_) (pparts_j3 hl w f hn' h101 true (by rw [signL_at h1, if_pos (.inl h43)]; simp))
    simp only [texts_parts.j2]
    rw [if_pos trivial, hw1, if_pos (by rw [B_size]; omega), if_pos (by omega), hbt, if_pos ((e43 _).2 h43)]
   ·by_cases h45 : l[n + 1] = 45
    ·refine Ev.step (fun k => ?_) (pparts_j3 hl w f hn' h101 true (by rw [signL_at h1, if_pos (.inr h45)]; simp))
     simp only [texts_parts.j2]
     rw [if_pos trivial, hw1, if_pos (by rw [B_size]; omega), if_pos (by omega), hbt, if_neg (fun h => h43 ((e43 _).1 h)), b45, h45]; rfl
    ·refine Ev.step (fun k => ?_) (pparts_j3 hl w f hn' h101 false (by rw [signL_at h1, if_neg (by rintro (h | h); exact h43 h; exact h45 h)]; simp))
     have hx : (l[n + 1] == 45) = false := by simpa using h45
     simp only [texts_parts.j2]
     rw [if_pos trivial, hw1, if_pos (by rw [B_size]; omega), if_pos (by omega), hbt, if_neg (fun h => h43 ((e43 _).1 h)), b45, hx]
  ·refine Ev.step (fun k => ?_) (pparts_j3 hl w f hn' h101 false (by rw [signL_end (by omega)]; simp))
   simp only [texts_parts.j2]
   rw [if_pos trivial, hw1, if_neg (by rw [B_size]; omega)]
 | false =>
  have hx : expL (l.drop n) = [] := by
   by_cases hn' : n < l.length
   ·rw [expL_at hn', if_neg]
    intro h
    rw [decide_eq_true hn', getD_at hn', h] at hb; simp at hb
   ·rw [List.drop_eq_nil_of_le (by omega)]; rfl
  rw [hx]
  refine Ev.step (f := fun _ => some (B w, B f, B [], (n : Int))) (fun k => ?_) (Ev.now _)
  simp only [texts_parts.j2]
  rw [if_neg (by simp)]
theorem pparts_j1 {l : List UInt8} (hl : l.length ≤ 10000) {w f : List UInt8} (hwf : w.length + f.length ≤ 100000) {n : Nat} (hn : n ≤ l.length) :
  Ev (fun k => texts_parts.j1 k (B l) (B w) (B f) (B []) (n : Int)) (if w ++ f = [] then (B [], B [], B [], 0) else (B w, B f, B (expL (l.drop n)), ((n + (exL (expL (l.drop n))).length : Nat) : Int))) := by
 by_cases h : w ++ f = []
 ·rw [if_pos h]
  refine Ev.step (f := fun _ => some (B [], B [], B [], 0)) (fun k => ?_) (Ev.now _)
  simp only [texts_parts.j1]
  rw [if_pos (by rw [B_size, B_size]; omega), B_app, if_pos (by rw [B_toList]; exact h)]; rfl
 ·rw [if_neg h]
  by_cases hn' : n < l.length
  ·refine Ev.step (fun k => ?_) (pparts_j2 hl w f hn (l[n] == 101) (by rw [decide_eq_true hn', getD_at hn']; rfl))
   have e101 : (((l[n]).toNat : Int) == 101) = (l[n] == 101) := by rw [Bool.eq_iff_iff, beq_iff_eq, beq_iff_eq]; exact e101 _
   simp only [texts_parts.j1]
   rw [if_pos (by rw [B_size, B_size]; omega), B_app, if_neg (by rw [B_toList]; exact h), if_pos (by rw [B_size]; omega), if_pos (by omega), B_at hn', e101]
  ·refine Ev.step (fun k => ?_) (pparts_j2 hl w f hn false (by rw [decide_eq_false hn']; rfl))
   simp only [texts_parts.j1]
   rw [if_pos (by rw [B_size, B_size]; omega), B_app, if_neg (by rw [B_toList]; exact h), if_neg (by rw [B_size]; omega)]
theorem pparts_j0 {l : List UInt8} (hl : l.length ≤ 10000) {w : List UInt8} {n : Nat} (hn : n ≤ l.length) (hw : w.length = n) (b : Bool) (hb : b = (decide (n < l.length) && l.getD n 0 == 46)) :
  Ev (fun k => texts_parts.j0 k (B l) (B w) (B []) (B []) (n : Int) b) (if w ++ fracL (l.drop n) = [] then (B [], B [], B [], 0) else (B w, B (fracL (l.drop n)), B (expL (l.drop (n + (dotL (fracL (l.drop n))).length))), ((n + (dotL (fracL (l.drop n))).length + (exL (expL (l.drop (n + (dotL (fracL (l.drop n))).length)))).length : Nat) : Int))) := by
 have none : fracL (l.drop n) = [] → Ev (fun k => texts_parts.j1 k (B l) (B w) (B []) (B []) (n : Int)) (if w ++ fracL (l.drop n) = [] then (B [], B [], B [], 0) else (B w, B (fracL (l.drop n)), B (expL (l.drop (n + (dotL (fracL (l.drop n))).length))), ((n + (dotL (fracL (l.drop n))).length + (exL (expL (l.drop (n + (dotL (fracL (l.drop n))).length)))).length : Nat) : Int))) := by
  intro h
  rw [h]
  exact pparts_j1 hl (w := w) (f := []) (by simp; omega) hn
 have hw1 : wrap64 ((n : Int) + 1) = ((n + 1 : Nat) : Int) := by rw [t64 (by omega) (by omega)]; omega
 cases b with
 | true =>
  have hb := hb.symm
  rw [Bool.and_eq_true] at hb
  have hn' : n < l.length := of_decide_eq_true hb.1
  have h46 : l[n] = 46 := by have := hb.2; rw [getD_at hn'] at this; exact eq_of_beq this
  have hfr : fracL (l.drop n) = (l.drop (n + 1)).takeWhile isd := by rw [fracL_at hn', if_pos h46]
  have hd := pdig_ev (l := l.drop (n + 1)) (by rw [List.length_drop]; omega)
  have hz := nd_zero (l := l.drop (n + 1))
  have hnl := nd_le (l.drop (n + 1))
  have htk := nd_take (l.drop (n + 1))
  have hlen : ((l.drop (n + 1)).takeWhile isd).length = nd (l.drop (n + 1)) := rfl
  rw [List.length_drop] at hnl
  by_cases hq : nd (l.drop (n + 1)) = 0
  ·have := none (by rw [hfr]; exact hz.1 hq)
   refine Ev.step (f := fun k => (texts_digits.f k (B (l.drop (n + 1)))).bind fun t193 => (if t193 > 0 then (if ((n + 1 : Nat) : Int) ≤ (wrap64 (((n + 1 : Nat) : Int) + t193)) then (if (wrap64 (((n + 1 : Nat) : Int) + t193)) ≤ (((B l).size : Nat) : Int) then (texts_parts.j1 k (B l) (B w) ((B l).extract (((n + 1 : Nat) : Int)).toNat ((wrap64 (((n + 1 : Nat) : Int) + t193)) : Int).toNat) (B []) (wrap64 ((n : Int) + (wrap64 (1 + t193))))) else (Option.none)) else (Option.none)) else (texts_parts.j1 k (B l) (B w) (B []) (B []) (n : Int)))) (fun k => ?_) (ev_of2 hd this (fun k e1 e2 => ?_))
   ·simp only [texts_parts.j0]
    rw [if_pos trivial, hw1, if_pos (by omega), if_pos (by rw [B_size]; omega), Int.toNat_natCast, B_from]
   ·rw [e1, Option.bind_some, if_neg (by omega)]; exact e2
  ·have hne : (l.drop (n + 1)).takeWhile isd ≠ [] := fun h => hq (hz.2 h)
   have hj := pparts_j1 hl (w := w) (f := (l.drop (n + 1)).takeWhile isd) (by rw [hlen]; omega) (n := n + (nd (l.drop (n + 1)) + 1)) (by omega)
   have hdl : (dotL ((l.drop (n + 1)).takeWhile isd)).length = nd (l.drop (n + 1)) + 1 := by rw [dotL_len, if_neg hne]; rfl
   rw [hfr, hdl]
   have hw3 : wrap64 (((n + 1 : Nat) : Int) + ((nd (l.drop (n + 1)) : Nat) : Int)) = ((n + 1 + nd (l.drop (n + 1)) : Nat) : Int) := by rw [t64 (by omega) (by omega)]; omega
   have hw4 : wrap64 ((n : Int) + wrap64 (1 + ((nd (l.drop (n + 1)) : Nat) : Int))) = ((n + (nd (l.drop (n + 1)) + 1) : Nat) : Int) := by rw [t64 (n := 1 + ((nd (l.drop (n + 1)) : Nat) : Int)) (by omega) (by omega), t64 (by omega) (by omega)]; omega
   refine Ev.step (f := fun k => (texts_digits.f k (B (l.drop (n + 1)))).bind fun t193 => (if t193 > 0 then (if ((n + 1 : Nat) : Int) ≤ (wrap64 (((n + 1 : Nat) : Int) + t193)) then (if (wrap64 (((n + 1 : Nat) : Int) + t193)) ≤ (((B l).size : Nat) : Int) then (texts_parts.j1 k (B l) (B w) ((B l).extract (((n + 1 : Nat) : Int)).toNat ((wrap64 (((n + 1 : Nat) : Int) + t193)) : Int).toNat) (B []) (wrap64 ((n : Int) + (wrap64 (1 + t193))))) else (Option.none)) else (Option.none)) else (texts_parts.j1 k (B l) (B w) (B []) (B []) (n : Int)))) (fun k => ?_) (ev_of2 hd hj (fun k e1 e2 => ?_))
   ·simp only [texts_parts.j0]
    rw [if_pos trivial, hw1, if_pos (by omega), if_pos (by rw [B_size]; omega), Int.toNat_natCast, B_from]
   ·rw [e1, Option.bind_some, if_pos (by omega), hw3, if_pos (by omega), if_pos (by rw [B_size]; omega), Int.toNat_natCast, Int.toNat_natCast, B_part, htk, hw4]; exact e2
 | false =>
  have hx : fracL (l.drop n) = [] := by
   by_cases hn' : n < l.length
   ·rw [fracL_at hn', if_neg]
    intro h
    rw [decide_eq_true hn', getD_at hn', h] at hb; simp at hb
   ·rw [List.drop_eq_nil_of_le (by omega)]; rfl
  refine Ev.step (fun k => ?_) (none hx)
  simp only [texts_parts.j0]
  rw [if_neg (by simp)]
def partsB (p : List UInt8 × List UInt8 × List UInt8 × Nat) : ByteArray × ByteArray × ByteArray × Int := (B p.1, B p.2.1, B p.2.2.1, (p.2.2.2 : Int))
theorem pparts_ev {l : List UInt8} (hl : l.length ≤ 10000) : Ev (fun k => texts_parts.f k (B l)) (partsB (partsL l)) := by
 have hd := pdig_ev (l := l) (by omega)
 have hnl := nd_le l
 have htk : (B l).extract 0 (nd l) = B (l.takeWhile isd) := by rw [B_ext, List.drop_zero, Nat.sub_zero, nd_take]
 have hj := pparts_j0 hl (w := l.takeWhile isd) (n := nd l) hnl rfl (decide (nd l < l.length) && l.getD (nd l) 0 == 46) rfl
 have hr : (if l.takeWhile isd ++ fracL (l.drop (nd l)) = [] then (B [], B [], B [], 0) else (B (l.takeWhile isd), B (fracL (l.drop (nd l))), B (expL (l.drop (nd l + (dotL (fracL (l.drop (nd l)))).length))), ((nd l + (dotL (fracL (l.drop (nd l)))).length + (exL (expL (l.drop (nd l + (dotL (fracL (l.drop (nd l)))).length)))).length : Nat) : Int))) = partsB (partsL l) := by
  unfold partsL; split <;> rfl
 rw [hr] at hj
 refine ev_of2 hd hj (fun k e1 e2 => ?_)
 unfold texts_parts.f
 rw [e1, Option.bind_some, if_pos (by omega), if_pos (by rw [B_size]; omega), Int.toNat_natCast, htk]
 by_cases hn' : nd l < l.length
 ·have e46 : (((l[nd l]).toNat : Int) == 46) = (l[nd l] == 46) := by rw [Bool.eq_iff_iff, beq_iff_eq, beq_iff_eq]; exact e46 _
  rw [decide_eq_true hn', getD_at hn', Bool.true_and] at e2
  rw [if_pos (by rw [B_size]; omega), B_at hn', e46]; exact e2
 ·rw [decide_eq_false hn', Bool.false_and] at e2
  rw [if_neg (by rw [B_size]; omega)]; exact e2
theorem rlen_j4 {l : List UInt8} (hl : l.length ≤ 10000) {a n m : Nat} (ha : a ≤ n) (hn : n ≤ 20000) (hm : m ≤ 20000) (hnm : n ≤ m) :
  Ev (fun k => environref03_length.j4 k (B l) (a : Int) (n : Int) (m : Int)) (if nd (l.drop m) = 0 then ((n - a : Nat) : Int) else ((m + nd (l.drop m) - a : Nat) : Int)) := by
 have hd := rdig_ev (l := l) (by omega) (a := m) (by omega)
 have hnl := nd_le (l.drop m)
 rw [List.length_drop] at hnl
 refine Ev.step (f := fun k => (environref03_digits.f k (B l) (m : Int)).bind fun t531 => (if t531 > 0 then ((environref03_digits.f k (B l) (m : Int)).bind fun t532 => (some (wrap64 ((wrap64 ((m : Int) + t532)) - (a : Int))))) else (some (wrap64 ((n : Int) - (a : Int)))))) (fun k => ?_) (ev_of hd (fun k e1 => ?_))
 ·simp only [environref03_length.j4]
 ·rw [e1, Option.bind_some]
  generalize nd (l.drop m) = q at *
  by_cases hq : q = 0
  ·rw [if_neg (by omega), if_pos hq, t64 (by omega) (by omega)]; congr 1; omega
  ·rw [if_pos (by omega), if_neg hq, Option.bind_some, t64 (n := (m : Int) + (q : Int)) (by omega) (by omega), t64 (by omega) (by omega)]; congr 1; omega
theorem exp_len {l : List UInt8} {n : Nat} (hn : n < l.length) (h101 : l[n] = 101) : (exL (expL (l.drop n))).length = if nd (l.drop (n + 1 + (signL (l.drop (n + 1))).length)) = 0 then 0 else 1 + (signL (l.drop (n + 1))).length + nd (l.drop (n + 1 + (signL (l.drop (n + 1))).length)) := by
 rw [exL_len, expL_at hn, if_pos h101, List.drop_drop]
 have hz := nd_zero (l := l.drop (n + 1 + (signL (l.drop (n + 1))).length))
 by_cases h : nd (l.drop (n + 1 + (signL (l.drop (n + 1))).length)) = 0
 ·rw [if_pos h, if_pos (hz.1 h), if_pos rfl]
 ·have hne := fun e => h (hz.2 e)
  have hlen : ((l.drop (n + 1 + (signL (l.drop (n + 1))).length)).takeWhile isd).length = nd (l.drop (n + 1 + (signL (l.drop (n + 1))).length)) := rfl
  rw [if_neg h, if_neg hne, if_neg (fun e => hne (List.append_eq_nil_iff.1 e).2), List.length_append, hlen]; omega
theorem rlen_j3 {l : List UInt8} (hl : l.length ≤ 10000) {a n : Nat} (ha : a ≤ n) (hn : n < l.length) (h101 : l[n] = 101) (b : Bool) (hb : b = decide (signL (l.drop (n + 1)) ≠ [])) :
  Ev (fun k => environref03_length.j3 k (B l) (a : Int) (n : Int) ((n + 1 : Nat) : Int) b) ((n + (exL (expL (l.drop n))).length - a : Nat) : Int) := by
 rw [exp_len hn h101]
 have hs1 : b = true → (signL (l.drop (n + 1))).length = 1 := by
  intro h
  rw [h] at hb
  have hs : signL (l.drop (n + 1)) ≠ [] := of_decide_eq_true hb.symm
  have hn1 : n + 1 < l.length := by
   rcases Nat.lt_or_ge (n + 1) l.length with h | h
   ·exact h
   ·exact absurd (signL_end h) hs
  have := signL_at hn1
  rw [this] at hs ⊢
  split
  ·rfl
  ·rename_i h; rw [if_neg h] at hs; exact absurd rfl hs
 have key : ∀ m : Nat, m = n + 1 + (signL (l.drop (n + 1))).length → m ≤ 20000 → Ev (fun k => environref03_length.j4 k (B l) (a : Int) (n : Int) (m : Int)) ((n + (if nd (l.drop (n + 1 + (signL (l.drop (n + 1))).length)) = 0 then 0 else 1 + (signL (l.drop (n + 1))).length + nd (l.drop (n + 1 + (signL (l.drop (n + 1))).length))) - a : Nat) : Int) := by
  intro m hm hm2
  have := rlen_j4 hl ha (by omega) hm2 (by omega)
  rw [← hm]
  have e : ((n + (if nd (l.drop m) = 0 then 0 else 1 + (signL (l.drop (n + 1))).length + nd (l.drop m)) - a : Nat) : Int) = if nd (l.drop m) = 0 then ((n - a : Nat) : Int) else ((m + nd (l.drop m) - a : Nat) : Int) := by
   split
   ·rfl
   ·congr 1; omega
  rw [e]; exact this
 cases b with
 | true =>
  have h1 := hs1 rfl
  refine Ev.step (fun k => ?_) (key (n + 2) (by omega) (by omega))
  simp only [environref03_length.j3]
  rw [if_pos trivial, t64 (by omega) (by omega)]; rfl
 | false =>
  have hs : signL (l.drop (n + 1)) = [] := Decidable.of_not_not (of_decide_eq_false hb.symm)
  have h0 : (signL (l.drop (n + 1))).length = 0 := by rw [hs]; rfl
  refine Ev.step (fun k => ?_) (key (n + 1) (by omega) (by omega))
  simp only [environref03_length.j3]
  rw [if_neg (by simp)]
theorem rlen_j2 {l : List UInt8} (hl : l.length ≤ 10000) {a n : Nat} (ha : a ≤ n) (hn : n ≤ l.length) (b : Bool) (hb : b = (decide (n < l.length) && l.getD n 0 == 101)) :
  Ev (fun k => environref03_length.j2 k (B l) (a : Int) (n : Int) ((n + 1 : Nat) : Int) b) ((n + (exL (expL (l.drop n))).length - a : Nat) : Int) := by
 cases b with
 | true =>
  have hb := hb.symm
  rw [Bool.and_eq_true] at hb
  have hn' : n < l.length := of_decide_eq_true hb.1
  have h101 : l[n] = 101 := by have := hb.2; rw [getD_at hn'] at this; exact eq_of_beq this
  by_cases h1 : n + 1 < l.length
  ·have hbt := B_at h1
   by_cases h43 : l[n + 1] = 43
   ·refine Ev.step (fun k => ?_) (rlen_j3 hl ha hn' h101 true (by rw [signL_at h1, if_pos (.inl h43)]; simp))
    simp only [environref03_length.j2]
    rw [if_pos trivial, if_pos (by rw [B_size]; omega), if_pos (by omega), hbt, if_pos ((e43 _).2 h43)]
   ·by_cases h45 : l[n + 1] = 45
    ·refine Ev.step (fun k => ?_) (rlen_j3 hl ha hn' h101 true (by rw [signL_at h1, if_pos (.inr h45)]; simp))
     simp only [environref03_length.j2]
     rw [if_pos trivial, if_pos (by rw [B_size]; omega), if_pos (by omega), hbt, if_neg (fun h => h43 ((e43 _).1 h)), b45, h45]; rfl
    ·refine Ev.step (fun k => ?_) (rlen_j3 hl ha hn' h101 false (by rw [signL_at h1, if_neg (by rintro (h | h); exact h43 h; exact h45 h)]; simp))
     have hx : (l[n + 1] == 45) = false := by simpa using h45
     simp only [environref03_length.j2]
     rw [if_pos trivial, if_pos (by rw [B_size]; omega), if_pos (by omega), hbt, if_neg (fun h => h43 ((e43 _).1 h)), b45, hx]
  ·refine Ev.step (fun k => ?_) (rlen_j3 hl ha hn' h101 false (by rw [signL_end (by omega)]; simp))
   simp only [environref03_length.j2]
   rw [if_pos trivial, if_neg (by rw [B_size]; omega)]
 | false =>
  have hx : expL (l.drop n) = [] := by
   by_cases hn' : n < l.length
   ·rw [expL_at hn', if_neg]
    intro h
    rw [decide_eq_true hn', getD_at hn', h] at hb; simp at hb
   ·rw [List.drop_eq_nil_of_le (by omega)]; rfl
  rw [hx]
  refine Ev.step (f := fun _ => some ((n - a : Nat) : Int)) (fun k => ?_) (Ev.now _)
  simp only [environref03_length.j2]
  rw [if_neg (by simp), t64 (by omega) (by omega)]; congr 1; omega
theorem rlen_j1 {l : List UInt8} (hl : l.length ≤ 10000) {a n : Nat} (ha : a ≤ n) (hn : n ≤ l.length) :
  Ev (fun k => environref03_length.j1 k (B l) (a : Int) (n : Int)) (if n = a then 0 else ((n + (exL (expL (l.drop n))).length - a : Nat) : Int)) := by
 by_cases h : n = a
 ·rw [if_pos h]
  refine Ev.step (f := fun _ => some 0) (fun k => ?_) (Ev.now _)
  simp only [environref03_length.j1]
  rw [if_pos (by omega)]
 ·rw [if_neg h]
  have hw1 : wrap64 ((n : Int) + 1) = ((n + 1 : Nat) : Int) := by rw [t64 (by omega) (by omega)]; omega
  by_cases hn' : n < l.length
  ·refine Ev.step (fun k => ?_) (rlen_j2 hl ha hn (l[n] == 101) (by rw [decide_eq_true hn', getD_at hn']; rfl))
   have e101 : (((l[n]).toNat : Int) == 101) = (l[n] == 101) := by rw [Bool.eq_iff_iff, beq_iff_eq, beq_iff_eq]; exact e101 _
   simp only [environref03_length.j1]
   rw [if_neg (by omega), if_pos (by rw [B_size]; omega), if_pos (by omega), B_at hn', e101, hw1]
  ·refine Ev.step (fun k => ?_) (rlen_j2 hl ha hn false (by rw [decide_eq_false hn']; rfl))
   simp only [environref03_length.j1]
   rw [if_neg (by omega), if_neg (by rw [B_size]; omega), hw1]
theorem rlen_j0 {l : List UInt8} (hl : l.length ≤ 10000) {a n : Nat} (ha : a ≤ n) (hn : n ≤ l.length) (b : Bool) (hb : b = decide (fracL (l.drop n) ≠ [])) :
  Ev (fun k => environref03_length.j0 k (B l) (a : Int) (n : Int) b) (if n + (dotL (fracL (l.drop n))).length = a then 0 else ((n + (dotL (fracL (l.drop n))).length + (exL (expL (l.drop (n + (dotL (fracL (l.drop n))).length)))).length - a : Nat) : Int)) := by
 cases b with
 | true =>
  have hs : fracL (l.drop n) ≠ [] := of_decide_eq_true hb.symm
  have hn' : n < l.length := by
   rcases Nat.lt_or_ge n l.length with h | h
   ·exact h
   ·exact absurd (by rw [List.drop_eq_nil_of_le h]; rfl) hs
  have h46 : l[n] = 46 := by
   rw [fracL_at hn'] at hs
   by_cases h : l[n] = 46
   ·exact h
   ·rw [if_neg h] at hs; exact absurd rfl hs
  have hfr : fracL (l.drop n) = (l.drop (n + 1)).takeWhile isd := by rw [fracL_at hn', if_pos h46]
  have hdl : (dotL (fracL (l.drop n))).length = nd (l.drop (n + 1)) + 1 := by rw [dotL_len, if_neg hs, hfr]; rfl
  have hnl := nd_le (l.drop (n + 1))
  rw [List.length_drop] at hnl
  have hd := rdig_ev (l := l) (by omega) (a := n + 1) (by omega)
  have hj := rlen_j1 hl (a := a) (n := n + (dotL (fracL (l.drop n))).length) (by omega) (by omega)
  have hw1 : wrap64 ((n : Int) + 1) = ((n + 1 : Nat) : Int) := by rw [t64 (by omega) (by omega)]; omega
  have hw2 : wrap64 (((n + 1 : Nat) : Int) + ((nd (l.drop (n + 1)) : Nat) : Int)) = ((n + (dotL (fracL (l.drop n))).length : Nat) : Int) := by rw [hdl, t64 (by omega) (by omega)]; omega
  refine Ev.step (f := fun k => (environref03_digits.f k (B l) ((n + 1 : Nat) : Int)).bind fun t530 => (environref03_length.j1 k (B l) (a : Int) (wrap64 (((n + 1 : Nat) : Int) + t530)))) (fun k => ?_) (ev_of2 hd hj (fun k e1 e2 => ?_))
  ·simp only [environref03_length.j0]
   rw [if_pos trivial, hw1]
  ·rw [e1, Option.bind_some, hw2]; exact e2
 | false =>
  have hs : fracL (l.drop n) = [] := Decidable.of_not_not (of_decide_eq_false hb.symm)
  have hj := rlen_j1 hl (a := a) (n := n) ha hn
  rw [hs]
  refine Ev.step (fun k => ?_) hj
  simp only [environref03_length.j0]
  rw [if_neg (by simp)]
theorem rlen_ev {l : List UInt8} (hl : l.length ≤ 10000) {a : Nat} (ha : a ≤ l.length) : Ev (fun k => environref03_length.f k (B l) (a : Int)) (((partsL (l.drop a)).2.2.2 : Nat) : Int) := by
 have hnl := nd_le (l.drop a)
 rw [List.length_drop] at hnl
 have hd := rdig_ev (l := l) (by omega) (a := a) (by omega)
 have hj := rlen_j0 hl (a := a) (n := a + nd (l.drop a)) (by omega) (by omega) (decide (fracL (l.drop (a + nd (l.drop a))) ≠ [])) rfl
 have hr : (if a + nd (l.drop a) + (dotL (fracL (l.drop (a + nd (l.drop a))))).length = a then 0 else ((a + nd (l.drop a) + (dotL (fracL (l.drop (a + nd (l.drop a))))).length + (exL (expL (l.drop (a + nd (l.drop a) + (dotL (fracL (l.drop (a + nd (l.drop a))))).length)))).length - a : Nat) : Int)) = (((partsL (l.drop a)).2.2.2 : Nat) : Int) := by
  unfold partsL
  rw [List.drop_drop, List.drop_drop, ← Nat.add_assoc]
  have hz := nd_zero (l := l.drop a)
  have hx := dotL_len (fracL (l.drop (a + nd (l.drop a))))
  by_cases h : (l.drop a).takeWhile isd ++ fracL (l.drop (a + nd (l.drop a))) = []
  ·rw [if_pos h]
   have h2 := List.append_eq_nil_iff.1 h
   have h3 := hz.2 h2.1
   rw [h2.2, if_pos rfl] at hx
   rw [if_pos (by rw [h2.2]; rw [hx]; omega)]; rfl
  ·rw [if_neg h]
   have : ¬ a + nd (l.drop a) + (dotL (fracL (l.drop (a + nd (l.drop a))))).length = a := by
    intro h0
    refine h ?_
    have h4 : nd (l.drop a) = 0 := by omega
    have h5 : fracL (l.drop (a + nd (l.drop a))) = [] := by
     by_cases hf : fracL (l.drop (a + nd (l.drop a))) = []
     ·exact hf
     ·rw [if_neg hf] at hx; omega
    rw [hz.1 h4, h5]; rfl
   rw [if_neg this]
   show _ = ((nd (l.drop a) + _ + _ : Nat) : Int)
   congr 1; omega
 rw [hr] at hj
 have hd2 := rdig_ev (l := l) (by omega) (a := a + nd (l.drop a) + 1) (by omega)
 refine ev_of3 hd hj hd2 (fun k e1 e2 e3 => ?_)
 have hw1 : wrap64 ((a : Int) + ((nd (l.drop a) : Nat) : Int)) = ((a + nd (l.drop a) : Nat) : Int) := by rw [t64 (by omega) (by omega)]; omega
 unfold environref03_length.f
 rw [e1, Option.bind_some, hw1]
 have hbnd : a + nd (l.drop a) ≤ l.length := by omega
 clear hr hj hd hd2 e1 hw1 hnl
 generalize a + nd (l.drop a) = n at *
 have hw2 : wrap64 ((n : Int) + 1) = ((n + 1 : Nat) : Int) := by rw [t64 (by omega) (by omega)]; omega
 rw [hw2]
 by_cases hn' : n < l.length
 ·rw [if_pos (by rw [B_size]; omega), if_pos (by omega), B_at hn']
  by_cases h46 : l[n] = 46
  ·have hfr : fracL (l.drop n) = (l.drop (n + 1)).takeWhile isd := by rw [fracL_at hn', if_pos h46]
   have hz := nd_zero (l := l.drop (n + 1))
   rw [if_pos ((e46 _).2 h46), e3, Option.bind_some]
   have : decide (((nd (l.drop (n + 1)) : Nat) : Int) > 0) = decide (fracL (l.drop n) ≠ []) := by
    rw [decide_eq_decide, hfr, ne_eq, ← hz]; omega
   rw [this]; exact e2
  ·have hfr : fracL (l.drop n) = [] := by rw [fracL_at hn', if_neg h46]
   rw [if_neg (fun h => h46 ((e46 _).1 h))]
   rw [decide_eq_false (fun h => h hfr)] at e2
   exact e2
 ·have hfr : fracL (l.drop n) = [] := by rw [List.drop_eq_nil_of_le (by omega)]; rfl
  rw [if_neg (by rw [B_size]; omega)]
  rw [decide_eq_false (fun h => h hfr)] at e2
  exact e2
def ExpOk (x : List UInt8) : Prop := x = [] ∨ ∃ sg d, x = sg ++ d ∧ (sg = [] ∨ sg = [43] ∨ sg = [45]) ∧ d ≠ [] ∧ d.all isd = true
theorem signL_cons (c : UInt8) (r : List UInt8) : signL (c :: r) = if c = 43 ∨ c = 45 then [c] else [] := rfl
theorem fracL_cons (c : UInt8) (v : List UInt8) : fracL (c :: v) = if c = 46 then v.takeWhile isd else [] := rfl
theorem expL_cons (c : UInt8) (v : List UInt8) : expL (c :: v) = if c = 101 then (if (v.drop (signL v).length).takeWhile isd = [] then [] else signL v ++ (v.drop (signL v).length).takeWhile isd) else [] := rfl
theorem signL_or (v : List UInt8) : signL v = [] ∨ signL v = [43] ∨ signL v = [45] := by
 cases v with
 | nil => exact .inl rfl
 | cons c r =>
  rw [signL_cons]
  split
  ·rename_i h
   rcases h with h | h
   ·rw [h]; exact .inr (.inl rfl)
   ·rw [h]; exact .inr (.inr rfl)
  ·exact .inl rfl
theorem expL_ok (r : List UInt8) : ExpOk (expL r) := by
 cases r with
 | nil => exact .inl rfl
 | cons c v =>
  rw [expL_cons]
  split
  ·split
   ·exact .inl rfl
   ·rename_i h
    exact .inr ⟨_, _, rfl, signL_or v, h, all_tw _⟩
  ·exact .inl rfl
theorem fracL_all (r : List UInt8) : (fracL r).all isd = true := by
 cases r with
 | nil => rfl
 | cons c v =>
  rw [fracL_cons]
  split
  ·exact all_tw v
  ·rfl
theorem frac_take (r : List UInt8) : r.take (dotL (fracL r)).length = dotL (fracL r) := by
 cases r with
 | nil => rfl
 | cons c v =>
  by_cases h : fracL (c :: v) = []
  ·rw [h]; rfl
  ·have hc : c = 46 := by
    by_cases h46 : c = 46
    ·exact h46
    ·rw [fracL_cons] at h; rw [if_neg h46] at h; exact absurd rfl h
   have hf : fracL (c :: v) = v.takeWhile isd := by rw [fracL_cons]; rw [if_pos hc]
   rw [hf] at h ⊢
   unfold dotL
   rw [if_neg h, List.length_cons, List.take_succ_cons, tw_take, hc]
theorem sign_take (v : List UInt8) : v.take (signL v).length = signL v := by
 cases v with
 | nil => rfl
 | cons c r =>
  rw [signL_cons]
  split <;> rfl
theorem exp_take (r : List UInt8) : r.take (exL (expL r)).length = exL (expL r) := by
 cases r with
 | nil => rfl
 | cons c v =>
  by_cases h : expL (c :: v) = []
  ·rw [h]; rfl
  ·have hc : c = 101 := by
    by_cases h101 : c = 101
    ·exact h101
    ·rw [expL_cons] at h; rw [if_neg h101] at h; exact absurd rfl h
   have hd : ¬ (v.drop (signL v).length).takeWhile isd = [] := by
    intro h2; rw [expL_cons] at h; rw [if_pos hc, if_pos h2] at h; exact absurd rfl h
   have hx : expL (c :: v) = signL v ++ (v.drop (signL v).length).takeWhile isd := by rw [expL_cons]; rw [if_pos hc, if_neg hd]
   rw [hx] at h ⊢
   unfold exL
   rw [if_neg h, List.length_cons, List.take_succ_cons, List.length_append, List.take_add, sign_take, tw_take, hc]
structure Stop (u : List UInt8) : Prop where
 d : u.takeWhile isd = []
 f : fracL u = []
 e : expL u = []
theorem Stop.nil : Stop [] := ⟨rfl, rfl, rfl⟩
theorem tw_app {D u : List UInt8} (h : D.all isd = true) (hu : u.takeWhile isd = []) : (D ++ u).takeWhile isd = D := by
 induction D with
 | nil => exact hu
 | cons c r ih =>
  rw [List.all_cons, Bool.and_eq_true] at h
  rw [List.cons_append, List.takeWhile_cons, if_pos h.1, ih h.2]
theorem sign_app {sg d u : List UInt8} (hs : sg = [] ∨ sg = [43] ∨ sg = [45]) (hd : d ≠ []) (ha : d.all isd = true) : signL (sg ++ d ++ u) = sg := by
 rcases hs with rfl | rfl | rfl
 ·cases d with
  | nil => exact absurd rfl hd
  | cons c r =>
   rw [List.all_cons, Bool.and_eq_true] at ha
   have := of_decide_eq_true ha.1
   show (if c = 43 ∨ c = 45 then [c] else []) = []
   rw [if_neg]
   rintro (rfl | rfl)
   ·exact absurd this.1 (by decide)
   ·exact absurd this.1 (by decide)
 ·rfl
 ·rfl
theorem exp_app {x u : List UInt8} (hx : ExpOk x) (hu : Stop u) : expL (exL x ++ u) = x := by
 rcases hx with rfl | ⟨sg, d, rfl, hs, hd, ha⟩
 ·exact hu.e
 ·have hne : sg ++ d ≠ [] := fun h => hd (List.append_eq_nil_iff.1 h).2
  unfold exL
  rw [if_neg hne]
  show (if (101 : UInt8) = 101 then (if ((sg ++ d ++ u).drop (signL (sg ++ d ++ u)).length).takeWhile isd = [] then [] else signL (sg ++ d ++ u) ++ ((sg ++ d ++ u).drop (signL (sg ++ d ++ u)).length).takeWhile isd) else []) = sg ++ d
  rw [if_pos rfl, sign_app hs hd ha, List.append_assoc, List.drop_left, tw_app ha hu.d, if_neg hd]
theorem ex_head (x u : List UInt8) (hu : Stop u) : (exL x ++ u).takeWhile isd = [] ∧ fracL (exL x ++ u) = [] := by
 unfold exL
 split
 ·exact ⟨hu.d, hu.f⟩
 ·exact ⟨rfl, rfl⟩
theorem frac_app {f v : List UInt8} (hf : f.all isd = true) (hv : v.takeWhile isd = []) (hv2 : fracL v = []) : fracL (dotL f ++ v) = f := by
 unfold dotL
 split
 ·rename_i h; rw [h]; exact hv2
 ·show (if (46 : UInt8) = 46 then (f ++ v).takeWhile isd else []) = f
  rw [if_pos rfl, tw_app hf hv]
theorem dot_head {f v : List UInt8} (hv : v.takeWhile isd = []) : (dotL f ++ v).takeWhile isd = [] := by
 unfold dotL
 split
 ·exact hv
 ·rfl
theorem parts_of {w f x u : List UInt8} (hw : w.all isd = true) (hf : f.all isd = true) (hne : w ++ f ≠ []) (hx : ExpOk x) (hu : Stop u) :
  partsL (w ++ (dotL f ++ (exL x ++ u))) = (w, f, x, w.length + (dotL f).length + (exL x).length) := by
 have h1 := ex_head x u hu
 have h2 : (w ++ (dotL f ++ (exL x ++ u))).takeWhile isd = w := tw_app hw (dot_head h1.1)
 have h3 : nd (w ++ (dotL f ++ (exL x ++ u))) = w.length := by unfold nd; rw [h2]
 have h4 : (w ++ (dotL f ++ (exL x ++ u))).drop w.length = dotL f ++ (exL x ++ u) := List.drop_left
 have h5 : fracL (dotL f ++ (exL x ++ u)) = f := frac_app hf h1.1 h1.2
 have h6 : (w ++ (dotL f ++ (exL x ++ u))).drop (w.length + (dotL f).length) = exL x ++ u := by rw [← List.drop_drop, h4, List.drop_left]
 unfold partsL
 rw [h2, h3, h4, h5, if_neg hne, h6, exp_app hx hu]
theorem parts_form (l : List UInt8) : (partsL l = ([], [], [], 0)) ∨ ∃ w f x, partsL l = (w, f, x, w.length + (dotL f).length + (exL x).length) ∧ l.take (w.length + (dotL f).length + (exL x).length) = w ++ (dotL f ++ exL x) ∧ w.all isd = true ∧ f.all isd = true ∧ w ++ f ≠ [] ∧ ExpOk x := by
 unfold partsL
 split
 ·exact .inl rfl
 ·rename_i h
  refine .inr ⟨_, _, _, rfl, ?_, all_tw l, fracL_all _, h, expL_ok _⟩
  have hl : (l.takeWhile isd).length = nd l := rfl
  rw [hl, List.take_add, List.take_add, nd_take, frac_take, exp_take, List.append_assoc]
theorem parts_again {w f x : List UInt8} (hw : w.all isd = true) (hf : f.all isd = true) (hne : w ++ f ≠ []) (hx : ExpOk x) :
  partsL (w ++ (dotL f ++ exL x)) = (w, f, x, w.length + (dotL f).length + (exL x).length) := by
 have := parts_of hw hf hne hx Stop.nil
 rw [List.append_nil] at this
 exact this
def xneg (x : List UInt8) : Bool := decide (signL x = [45])
def xdig (x : List UInt8) : List UInt8 := x.drop (signL x).length
theorem x_parts {sg d : List UInt8} (hs : sg = [] ∨ sg = [43] ∨ sg = [45]) (hd : d ≠ []) (ha : d.all isd = true) : signL (sg ++ d) = sg ∧ xdig (sg ++ d) = d := by
 have := sign_app (u := []) hs hd ha
 rw [List.append_nil] at this
 unfold xdig
 rw [this, List.drop_left]; exact ⟨rfl, rfl⟩
theorem xdig_all {x : List UInt8} (hx : ExpOk x) : (xdig x).all isd = true := by
 rcases hx with rfl | ⟨sg, d, rfl, hs, hd, ha⟩
 ·rfl
 ·rw [(x_parts hs hd ha).2]; exact ha
def expV (M : Int) (x : List UInt8) : Int := if xneg x = true then -(if (dval (xdig x) : Int) ≤ M then (dval (xdig x) : Int) else M) else (if (dval (xdig x) : Int) ≤ M then (dval (xdig x) : Int) else M)
theorem dw2 {d : List UInt8} (ha : d.all isd = true) : d.dropWhile (([43, 45] : List UInt8).contains ·) = d := by
 cases d with
 | nil => rfl
 | cons c r =>
  rw [List.all_cons, Bool.and_eq_true] at ha
  have := of_decide_eq_true ha.1
  rw [List.dropWhile_cons, if_neg]
  intro h
  have h : c = 43 ∨ c = 45 := by simpa using h
  rcases h with rfl | rfl
  ·exact absurd this.1 (by decide)
  ·exact absurd this.1 (by decide)
theorem clamped_is {x : List UInt8} (hx : ExpOk x) (hl : x.length ≤ 10000) : texts_clamped.f (B x) = some (expV 1099511627776 x) := by
 have hp : strings_HasPrefix.f (B x) (⟨#[45]⟩ : ByteArray) = some (xneg x) := by
  unfold strings_HasPrefix.f xneg
  congr 1
  show Lib.hasPrefix x [45] = _
  unfold Lib.hasPrefix
  cases x with
  | nil => rfl
  | cons c r =>
   rw [signL_cons]
   by_cases h : c = 45
   ·subst h; simp [List.isPrefixOf]
   ·have h2 : ((45 : UInt8) == c) = false := by rw [beq_eq_false_iff_ne]; exact fun e => h e.symm
    by_cases h3 : c = 43
    ·subst h3; simp [List.isPrefixOf]
    ·rw [if_neg (by rintro (e | e); exact h3 e; exact h e)]
     simp [List.isPrefixOf, h2]
 have ht : strings_TrimLeft.f (B x) (⟨#[43, 45]⟩ : ByteArray) = some (B (xdig x)) := by
  unfold strings_TrimLeft.f
  rw [if_pos ⟨by decide, by rw [B_size]; omega⟩]
  congr 1
  show B (x.dropWhile (([43, 45] : List UInt8).contains ·)) = _
  congr 1
  rcases hx with rfl | ⟨sg, d, rfl, hs, hd, ha⟩
  ·rfl
  ·rw [(x_parts hs hd ha).2]
   rcases hs with rfl | rfl | rfl
   ·exact dw2 ha
   ·rw [List.singleton_append, List.dropWhile_cons, if_pos (by decide), dw2 ha]
   ·rw [List.singleton_append, List.dropWhile_cons, if_pos (by decide), dw2 ha]
 have hdl : (xdig x).length ≤ 10000 := by unfold xdig; rw [List.length_drop]; omega
 unfold texts_clamped.f expV
 rw [hp, Option.bind_some, ht, Option.bind_some, number_is (xdig_all hx) (by omega) (by decide) (by decide)]
 by_cases hv : (dval (xdig x) : Int) ≤ 1099511627776
 ·rw [if_pos hv, if_pos hv, Option.bind_some]
  cases xneg x
  ·rw [if_pos rfl, if_neg (by simp), if_neg (by simp)]
  ·rw [if_pos rfl, if_pos rfl, if_pos rfl, t64 (by omega) (by omega)]
 ·rw [if_neg hv, if_neg hv, Option.bind_some]
  cases xneg x <;> rfl
theorem dval_lt : ∀ {D : List UInt8}, D.all isd = true → dval D < 10 ^ D.length
 | [], _ => by decide
 | c :: r, h => by
  rw [List.all_cons, Bool.and_eq_true] at h
  have hc := of_decide_eq_true h.1
  have ih := dval_lt h.2
  have hm : (c.toNat - 48) * 10 ^ r.length ≤ 9 * 10 ^ r.length := Nat.mul_le_mul_right _ (by omega)
  rw [dval_cons, List.length_cons, Nat.pow_succ]; omega
def RR (s : Int) (neg : Bool) (n : Nat) (e : Int) : Int × Int × Int := Rr.flat (Rr.rnd (Rr.pd s) 0 neg n e false)
theorem er_ok {s : Int} (hs : szOk s) : Rr.er s = 0 := by rcases hs with rfl | rfl | rfl <;> rfl
theorem rnded_ev {s : Int} (hs : szOk s) (neg : Bool) {D : List UInt8} (hD : D.all isd = true) (hl : D.length ≤ 4000) {e : Int} (h0 : -2000000000000 ≤ e) (h1 : e ≤ 2000000000000) :
  Ev (fun k => (environref03_nat.f k (B D)).bind fun t => (environref02_Rounded.f k s 0 neg t e false).bind fun b => some (b.1, b.2.1, b.2.2)) (RR s neg (dval D) e) := by
 have hn := nat_ev hD (by omega)
 have hd : dg (dval D) ≤ 4000 := Nat.le_trans (Rr.dg_le_iff.2 (dval_lt hD)) hl
 have hr := Rr.rounded_is (er_ok hs) 0 (by decide) (by decide) neg (dval D) e false (.inr rfl) (by omega) h0 h1
 refine ev_of2 hn hr (fun k e1 e2 => ?_)
 rw [e1, Option.bind_some, e2]; rfl
theorem rreal_j3 {s : Int} (hs : szOk s) (neg : Bool) {t all d : List UInt8} {i : Nat} {b : Int} (hall : all.all isd = true) (hal : all.length ≤ 4000) (hb0 : -10000 ≤ b) (hb1 : b ≤ 10000) (ht : t.length ≤ 10000)
  (hd : t.drop i = d) (hda : d.all isd = true) (hi : i ≤ t.length) (minus : Bool) :
  Ev (fun k => environref03_real.j3 k s neg (B t) (B all) b (i : Int) minus) (RR s neg (dval all) (b + if minus = true then -(if (dval d : Int) ≤ 1000000000 then (dval d : Int) else 1000000000) else (if (dval d : Int) ≤ 1000000000 then (dval d : Int) else 1000000000))) := by
 have hdl : d.length ≤ 10000 := by rw [← hd, List.length_drop]; omega
 have hv := value_ev hda (by omega)
 have j4 : ∀ v : Int, 0 ≤ v → v ≤ 1000000000 → Ev (fun k => environref03_real.j4 k s neg (B all) b minus v) (RR s neg (dval all) (b + if minus = true then -v else v)) := by
  intro v h0 h1
  cases minus with
  | true =>
   refine Ev.step (fun k => ?_) (rnded_ev hs neg hall hal (e := b + -v) (by omega) (by omega))
   simp only [environref03_real.j4]
   rw [if_pos trivial, t64 (n := -v) (by omega) (by omega), t64 (by omega) (by omega)]
  | false =>
   refine Ev.step (fun k => ?_) (rnded_ev hs neg hall hal (e := b + v) (by omega) (by omega))
   simp only [environref03_real.j4]
   rw [if_neg (by simp), t64 (by omega) (by omega)]
 have hx : ∀ k, environref03_real.j3 (k + 1) s neg (B t) (B all) b (i : Int) minus = (environref03_value.f k (B d)).bind fun t638 => (if t638 > 1000000000 then (environref03_real.j4 k s neg (B all) b minus 1000000000) else (environref03_real.j4 k s neg (B all) b minus t638)) := by
  intro k
  simp only [environref03_real.j3]
  rw [if_pos (by omega), if_pos (by rw [B_size]; omega), Int.toNat_natCast, B_from, hd]
 by_cases hle : (dval d : Int) ≤ 1000000000
 ·rw [if_pos hle]
  refine Ev.step hx (ev_of2 hv (j4 (dval d) (by omega) hle) (fun k e1 e2 => ?_))
  have : valueL (dval d) = (dval d : Int) := by unfold valueL; rw [if_pos (by omega)]
  rw [e1, Option.bind_some, this, if_neg (by omega)]; exact e2
 ·rw [if_neg hle]
  refine Ev.step hx (ev_of2 hv (j4 1000000000 (by omega) (by omega)) (fun k e1 e2 => ?_))
  have : valueL (dval d) > 1000000000 := by unfold valueL; split <;> omega
  rw [e1, Option.bind_some, if_pos this]; exact e2
theorem rreal_end {s : Int} (hs : szOk s) (neg : Bool) {t all x : List UInt8} {i be : Nat} (hall : all.all isd = true) (hal : all.length ≤ 4000) (hb1 : be ≤ 10000) (ht : t.length ≤ 10000)
  (hx : t.drop i = exL x) (hxo : ExpOk x) (hi : i ≤ t.length) (pt : Bool) :
  Ev (fun k => environref03_real.l0 k s neg (B t) (B all) (be : Int) pt (i : Int)) (RR s neg (dval all) (-(be : Int) + expV 1000000000 x)) := by
 have hwb : wrap64 (-(be : Int)) = -(be : Int) := t64 (by omega) (by omega)
 rcases hxo with rfl | ⟨sg, d, rfl, hsg, hd, ha⟩
 ·have hi2 : i = t.length := by
   have := congrArg List.length hx
   rw [List.length_drop] at this
   have h0 : (exL []).length = 0 := rfl
   omega
  have hev : expV 1000000000 [] = 0 := rfl
  rw [hev, Int.add_zero]
  refine Ev.step (f := fun k => environref03_real.j1 k s neg (B t) (B all) (be : Int) pt (i : Int) false) (fun k => ?_) (Ev.step (fun k => ?_) (rnded_ev hs neg hall hal (e := -(be : Int)) (by omega) (by omega)))
  ·simp only [environref03_real.l0]
   rw [if_neg (by rw [B_size]; omega)]
  ·simp only [environref03_real.j1]
   rw [if_neg (by simp), if_neg (by rw [B_size]; omega), hwb]
 ·have hne : sg ++ d ≠ [] := fun h => hd (List.append_eq_nil_iff.1 h).2
  have hexl : exL (sg ++ d) = 101 :: (sg ++ d) := by unfold exL; rw [if_neg hne]
  rw [hexl] at hx
  have hi2 : i < t.length := by
   have := congrArg List.length hx
   rw [List.length_drop, List.length_cons] at this; omega
  rw [List.drop_eq_getElem_cons hi2, List.cons.injEq] at hx
  obtain ⟨h101, hx⟩ := hx
  have hdp : 0 < (sg ++ d).length := List.length_pos_iff.2 hne
  have hi3 : i + 1 < t.length := by
   have := congrArg List.length hx
   rw [List.length_drop] at this; omega
  have hxp := x_parts hsg hd ha
  have hn101 : (((t[i]).toNat : Int) != 101) = false := by rw [h101]; rfl
  have hw1 : wrap64 ((i : Int) + 1) = ((i + 1 : Nat) : Int) := by rw [t64 (by omega) (by omega)]; omega
  have hat : sg ++ d = t[i + 1] :: t.drop (i + 2) := by rw [← hx, List.drop_eq_getElem_cons hi3]
  have hev : expV 1000000000 (sg ++ d) = if decide (sg = [45]) = true then -(if (dval d : Int) ≤ 1000000000 then (dval d : Int) else 1000000000) else (if (dval d : Int) ≤ 1000000000 then (dval d : Int) else 1000000000) := by
   unfold expV xneg; rw [hxp.1, hxp.2]
  rw [hev]
  have go : ∀ k, environref03_real.l0 (k + 1 + 1) s neg (B t) (B all) (be : Int) pt (i : Int) = (if (bt (B t) ((i + 1 : Nat) : Int)) = 43 then (environref03_real.j2 k s neg (B t) (B all) (-(be : Int)) ((i + 1 : Nat) : Int) ((bt (B t) ((i + 1 : Nat) : Int)) == 45) true) else (environref03_real.j2 k s neg (B t) (B all) (-(be : Int)) ((i + 1 : Nat) : Int) ((bt (B t) ((i + 1 : Nat) : Int)) == 45) ((bt (B t) ((i + 1 : Nat) : Int)) == 45))) := by
   intro k
   simp only [environref03_real.l0]
   rw [if_pos (by rw [B_size]; omega), if_pos (by omega), B_at hi2, hn101]
   simp only [environref03_real.j1]
   rw [if_neg (by simp), if_pos (by rw [B_size]; omega), hw1, hwb, if_pos (by omega), if_pos (by rw [B_size]; omega)]
  have two : ∀ {G : Nat → Option (Int × Int × Int)} {r}, Ev G r → (∀ k, environref03_real.l0 (k + 1 + 1) s neg (B t) (B all) (be : Int) pt (i : Int) = G k) → Ev (fun k => environref03_real.l0 k s neg (B t) (B all) (be : Int) pt (i : Int)) r := by
   rintro G r ⟨K, hK⟩ h
   refine ⟨K + 2, fun k hk => ?_⟩
   obtain ⟨k, rfl⟩ : ∃ j, k = j + 1 + 1 := ⟨k - 2, by omega⟩
   show environref03_real.l0 (k + 1 + 1) s neg (B t) (B all) (be : Int) pt (i : Int) = some r
   rw [h]; exact hK k (by omega)
  rcases hsg with rfl | rfl | rfl
  ·-- no sign
   have hc := of_decide_eq_true (List.all_eq_true.1 ha t[i + 1] (by rw [List.nil_append] at hat; rw [hat]; exact List.mem_cons_self ..))
   have h43 : ¬ t[i + 1] = 43 := by intro h; rw [h] at hc; exact absurd hc.1 (by decide)
   have h45 : (t[i + 1] == 45) = false := by rw [beq_eq_false_iff_ne]; intro h; rw [h] at hc; exact absurd hc.1 (by decide)
   have hj := rreal_j3 hs neg hall hal (b := -(be : Int)) (by omega) (by omega) ht (d := d) (i := i + 1) hx ha (by omega) false
   refine two (Ev.step (g := fun k => environref03_real.j2 k s neg (B t) (B all) (-(be : Int)) ((i + 1 : Nat) : Int) false false) (fun k => ?_) hj) (fun k => ?_)
   ·simp only [environref03_real.j2]; rw [if_neg (by simp)]
   ·rw [go, B_at hi3, if_neg (fun h => h43 ((e43 _).1 h)), b45, h45]
  ·have h43 : t[i + 1] = 43 := ((List.cons.inj hat).1).symm
   have hdd : t.drop (i + 2) = d := ((List.cons.inj hat).2).symm
   have h45 : (t[i + 1] == 45) = false := by rw [h43]; rfl
   have hj := rreal_j3 hs neg hall hal (b := -(be : Int)) (by omega) (by omega) ht (d := d) (i := i + 2) hdd ha (by omega) false
   refine two (Ev.step (g := fun k => environref03_real.j2 k s neg (B t) (B all) (-(be : Int)) ((i + 1 : Nat) : Int) false true) (fun k => ?_) hj) (fun k => ?_)
   ·simp only [environref03_real.j2]; rw [if_pos trivial, t64 (by omega) (by omega)]; rfl
   ·rw [go, B_at hi3, if_pos ((e43 _).2 h43), b45, h45]
  ·have h45 : t[i + 1] = 45 := ((List.cons.inj hat).1).symm
   have hdd : t.drop (i + 2) = d := ((List.cons.inj hat).2).symm
   have h43 : ¬ t[i + 1] = 43 := by rw [h45]; decide
   have h45' : (t[i + 1] == 45) = true := by rw [h45]; rfl
   have hj := rreal_j3 hs neg hall hal (b := -(be : Int)) (by omega) (by omega) ht (d := d) (i := i + 2) hdd ha (by omega) true
   refine two (Ev.step (g := fun k => environref03_real.j2 k s neg (B t) (B all) (-(be : Int)) ((i + 1 : Nat) : Int) true true) (fun k => ?_) hj) (fun k => ?_)
   ·simp only [environref03_real.j2]; rw [if_pos trivial, t64 (by omega) (by omega)]; rfl
   ·rw [go, B_at hi3, if_neg (fun h => h43 ((e43 _).1 h)), b45, h45']
theorem rreal_step {s : Int} (neg : Bool) {t all : List UInt8} {i be : Nat} (hb1 : be ≤ 10000) (ht : t.length ≤ 10000) (hal : all.length ≤ 10000) (hi : i < t.length) (hc : isd t[i] = true) (pt : Bool) :
  ∀ k, environref03_real.l0 (k + 1 + 1) s neg (B t) (B all) (be : Int) pt (i : Int) = environref03_real.l0 k s neg (B t) (B (all ++ [t[i]])) ((be + if pt = true then 1 else 0 : Nat) : Int) pt ((i + 1 : Nat) : Int) := by
 intro k
 have hd := of_decide_eq_true hc
 have hn101 : (((t[i]).toNat : Int) != 101) = true := by rw [bne_iff_ne]; omega
 have hw1 : wrap64 ((i : Int) + 1) = ((i + 1 : Nat) : Int) := by rw [t64 (by omega) (by omega)]; omega
 have hx : (B t).extract i (i + 1) = B [t[i]] := by
  rw [B_part, List.drop_eq_getElem_cons hi]; rfl
 simp only [environref03_real.l0]
 rw [if_pos (by rw [B_size]; omega), if_pos (by omega), B_at hi, hn101]
 simp only [environref03_real.j1]
 rw [if_pos trivial, if_pos (by omega), if_pos (by rw [B_size]; omega), B_at hi, if_neg (by omega), hw1, if_pos (by omega), if_pos (by rw [B_size]; omega), Int.toNat_natCast, Int.toNat_natCast, hx, if_pos (by rw [B_size, B_size]; simp; omega), B_app]
 cases pt with
 | true => rw [if_pos rfl, t64 (by omega) (by omega)]; rfl
 | false => rw [if_neg (by simp)]; rfl
theorem rreal_digits {s : Int} (neg : Bool) {t : List UInt8} (ht : t.length ≤ 10000) (pt : Bool) {r : Int × Int × Int} : ∀ (D rest all : List UInt8) (i be : Nat), t.drop i = D ++ rest → D.all isd = true → be + D.length ≤ 10000 → all.length + D.length ≤ 10000 → i ≤ t.length →
  Ev (fun k => environref03_real.l0 k s neg (B t) (B (all ++ D)) ((be + if pt = true then D.length else 0 : Nat) : Int) pt ((i + D.length : Nat) : Int)) r →
  Ev (fun k => environref03_real.l0 k s neg (B t) (B all) (be : Int) pt (i : Int)) r
 | [], rest, all, i, be, _, _, _, _, _, h => by
  rw [List.append_nil] at h
  have e : (be + if pt = true then ([] : List UInt8).length else 0) = be := by cases pt <;> rfl
  rw [e] at h; exact h
 | c :: D, rest, all, i, be, hx, hD, hbe, hal, hi, h => by
  rw [List.all_cons, Bool.and_eq_true] at hD
  rw [List.length_cons] at hbe hal
  have hi2 : i < t.length := by
   have := congrArg List.length hx
   rw [List.length_drop, List.cons_append, List.length_cons] at this; omega
  rw [List.drop_eq_getElem_cons hi2, List.cons_append, List.cons.injEq] at hx
  have hst := rreal_step (s := s) neg (all := all) (be := be) (by omega) ht (by omega) hi2 (by rw [hx.1]; exact hD.1) pt
  rw [hx.1] at hst
  have ih := rreal_digits (s := s) neg ht pt (r := r) D rest (all ++ [c]) (i + 1) (be + if pt = true then 1 else 0) hx.2 hD.2 (by split <;> omega) (by rw [List.length_append, List.length_singleton]; omega) (by omega) (by
   have e1 : all ++ [c] ++ D = all ++ c :: D := by simp
   have e2 : ((be + if pt = true then 1 else 0) + if pt = true then D.length else 0) = (be + if pt = true then (c :: D).length else 0) := by cases pt <;> simp <;> omega
   have e3 : i + 1 + D.length = i + (c :: D).length := by rw [List.length_cons]; omega
   rw [e1, e2, e3]; exact h)
  obtain ⟨K, hK⟩ := ih
  refine ⟨K + 2, fun k hk => ?_⟩
  obtain ⟨k, rfl⟩ : ∃ j, k = j + 1 + 1 := ⟨k - 2, by omega⟩
  show environref03_real.l0 (k + 1 + 1) s neg (B t) (B all) (be : Int) pt (i : Int) = some r
  rw [hst k]; exact hK k (by omega)
theorem rreal_ev {s : Int} (hs : szOk s) (neg : Bool) {w f x : List UInt8} (hw : w.all isd = true) (hf : f.all isd = true) (hx : ExpOk x) (hl : (w ++ (dotL f ++ exL x)).length ≤ 3000) :
  Ev (fun k => environref03_real.f k s neg (B (w ++ (dotL f ++ exL x)))) (RR s neg (dval (w ++ f)) (-(f.length : Int) + expV 1000000000 x)) := by
 have hall : (w ++ f).all isd = true := by rw [List.all_append, hw, hf]; rfl
 have hlen : w.length + (dotL f).length + (exL x).length ≤ 3000 := by rw [List.length_append, List.length_append] at hl; omega
 have hdl := dotL_len f
 have e0 : (⟨#[]⟩ : ByteArray) = B [] := rfl
 have key : Ev (fun k => environref03_real.l0 k s neg (B (w ++ (dotL f ++ exL x))) (B w) ((0 : Nat) : Int) false ((w.length : Nat) : Int)) (RR s neg (dval (w ++ f)) (-(f.length : Int) + expV 1000000000 x)) := by
  have hdr : (w ++ (dotL f ++ exL x)).drop w.length = dotL f ++ exL x := List.drop_left
  by_cases hf0 : f = []
  ·subst hf0
   rw [List.append_nil] at hall ⊢
   exact rreal_end hs neg hall (by omega) (by omega) (by omega) (by rw [hdr]; rfl) hx (by rw [List.length_append]; omega) false
  ·rw [if_neg hf0] at hdl
   have hdot : dotL f = 46 :: f := by unfold dotL; rw [if_neg hf0]
   have hi2 : w.length < (w ++ (dotL f ++ exL x)).length := by rw [List.length_append, List.length_append]; omega
   have hcat : (w ++ (dotL f ++ exL x)).drop w.length = 46 :: (f ++ exL x) := by rw [hdr, hdot]; rfl
   rw [List.drop_eq_getElem_cons hi2, List.cons.injEq] at hcat
   obtain ⟨h46, hdr2⟩ := hcat
   have hend := rreal_end hs neg (t := w ++ (dotL f ++ exL x)) (all := w ++ f) (x := x) (i := w.length + 1 + f.length) (be := f.length) hall (by rw [List.length_append]; omega) (by omega) (by omega) (by rw [← List.drop_drop, hdr2, List.drop_left]) hx (by rw [List.length_append, List.length_append]; omega) true
   have hdig := rreal_digits (s := s) neg (t := w ++ (dotL f ++ exL x)) (by omega) true f (exL x) w (w.length + 1) 0 hdr2 hf (by omega) (by omega) (by omega) (by
    have e : (0 + if true = true then f.length else 0) = f.length := by simp
    rw [e]; exact hend)
   generalize hT : w ++ (dotL f ++ exL x) = T at *
   obtain ⟨K, hK⟩ := hdig
   refine ⟨K + 2, fun k hk => ?_⟩
   obtain ⟨k, rfl⟩ : ∃ j, k = j + 1 + 1 := ⟨k - 2, by omega⟩
   have h2 := hK k (by omega)
   have hn101 : (((T[w.length]).toNat : Int) != 101) = true := by rw [h46]; rfl
   have hw1 : wrap64 (((w.length : Nat) : Int) + 1) = ((w.length + 1 : Nat) : Int) := by rw [t64 (by omega) (by omega)]; omega
   show environref03_real.l0 (k + 1 + 1) s neg (B T) (B w) ((0 : Nat) : Int) false ((w.length : Nat) : Int) = _
   simp only [environref03_real.l0]
   rw [if_pos (by rw [B_size]; omega), if_pos (by omega), B_at hi2, hn101]
   simp only [environref03_real.j1]
   rw [if_pos trivial, if_pos (by omega), if_pos (by rw [B_size]; omega), B_at hi2, if_pos ((e46 _).2 h46), hw1]
   exact h2
 have := rreal_digits (s := s) neg (t := w ++ (dotL f ++ exL x)) (by omega) false w (dotL f ++ exL x) [] 0 0 (by rw [List.drop_zero]) hw (by omega) (by rw [List.length_nil]; omega) (by omega) (by
  have e : (0 + if false = true then w.length else 0) = 0 := by simp
  rw [e, List.nil_append, Nat.zero_add]; exact key)
 unfold environref03_real.f
 rw [e0]
 exact this
theorem dw48_cons (c : UInt8) (r : List UInt8) : (c :: r).dropWhile (([48] : List UInt8).contains ·) = if c = 48 then r.dropWhile (([48] : List UInt8).contains ·) else c :: r := by
 rw [List.dropWhile_cons]
 by_cases h : c = 48
 ·rw [if_pos h, if_pos (by rw [h]; decide)]
 ·rw [if_neg h, if_neg (by simpa using h)]
theorem strip48 : ∀ {D : List UInt8}, D.all isd = true → ∃ Z, D.dropWhile (([48] : List UInt8).contains ·) = Z ∧ Z.all isd = true ∧ dval Z = dval D ∧ dg (dval D) = Z.length ∧ Z.length ≤ D.length
 | [], _ => ⟨[], rfl, rfl, rfl, dg_zero, Nat.le_refl _⟩
 | c :: r, h => by
  have h' := h
  rw [List.all_cons, Bool.and_eq_true] at h
  have hc := of_decide_eq_true h.1
  rw [dw48_cons]
  by_cases h48 : c = 48
  ·obtain ⟨Z, e1, e2, e3, e4, e5⟩ := strip48 h.2
   rw [if_pos h48]
   have hv : dval (c :: r) = dval r := by
    rw [dval_cons, h48, show ((48 : UInt8)).toNat - 48 = 0 from rfl, Nat.zero_mul, Nat.zero_add]
   exact ⟨Z, e1, e2, by rw [hv]; exact e3, by rw [hv]; exact e4, by rw [List.length_cons]; omega⟩
  ·rw [if_neg h48]
   have hc2 : 49 ≤ c.toNat := by
    rcases Nat.lt_or_ge 48 c.toNat with h | h
    ·exact h
    ·exact absurd (UInt8.toNat_inj.1 (by have : ((48 : UInt8)).toNat = 48 := rfl; omega)) h48
   refine ⟨c :: r, rfl, h', rfl, ?_, Nat.le_refl _⟩
   refine dg_is (dval_lt h') (.inr ?_)
   rw [dval_cons, List.length_cons, Nat.add_sub_cancel]
   have : 1 * 10 ^ r.length ≤ (c.toNat - 48) * 10 ^ r.length := Nat.mul_le_mul_right _ (by omega)
   omega
theorem dval_app (a b : List UInt8) : dval (a ++ b) = dval a * 10 ^ b.length + dval b := by
 have := dval_from b (dval a)
 rw [← this]; unfold dval; rw [List.foldl_append]
def tr48 (l : List UInt8) : List UInt8 := (l.reverse.dropWhile (([48] : List UInt8).contains ·)).reverse
theorem dw_append_all (p : UInt8 → Bool) (a b : List UInt8) : (a ++ b).dropWhile p = if a.dropWhile p = [] then b.dropWhile p else a.dropWhile p ++ b := by
 induction a with
 | nil => rfl
 | cons c r ih =>
  rw [List.cons_append, List.dropWhile_cons, List.dropWhile_cons]
  split
  ·exact ih
  ·rw [if_neg (by simp)]; rfl
theorem tr48_cons (c : UInt8) (v : List UInt8) : tr48 (c :: v) = if tr48 v = [] then (if c = 48 then [] else [c]) else c :: tr48 v := by
 unfold tr48
 rw [List.reverse_cons, dw_append_all]
 by_cases h : v.reverse.dropWhile (([48] : List UInt8).contains ·) = []
 ·rw [if_pos h, h, List.reverse_nil, if_pos rfl, dw48_cons]
  split <;> rfl
 ·rw [if_neg h, if_neg (by simpa using h), List.reverse_append]; rfl
theorem tr48_zero : ∀ {v : List UInt8}, v.all isd = true → (tr48 v = [] ↔ dval v = 0)
 | [], _ => by simp [tr48, dval]
 | c :: r, h => by
  rw [List.all_cons, Bool.and_eq_true] at h
  have hc := of_decide_eq_true h.1
  have ih := tr48_zero h.2
  have hp : 0 < 10 ^ r.length := Nat.pow_pos (by decide)
  rw [tr48_cons, dval_cons]
  by_cases hz : dval r = 0
  ·rw [if_pos (ih.2 hz), hz, Nat.add_zero]
   by_cases h48 : c = 48
   ·rw [if_pos h48, h48, show ((48 : UInt8)).toNat - 48 = 0 from rfl, Nat.zero_mul]; simp
   ·have hc2 : 1 ≤ c.toNat - 48 := by
     rcases Nat.lt_or_ge 48 c.toNat with h | h
     ·omega
     ·exact absurd (UInt8.toNat_inj.1 (by have : ((48 : UInt8)).toNat = 48 := rfl; omega)) h48
    rw [if_neg h48]
    have := Nat.mul_le_mul_right (10 ^ r.length) hc2
    constructor
    ·intro e; cases e
    ·intro e; omega
  ·rw [if_neg (fun e => hz (ih.1 e))]
   constructor
   ·intro e; cases e
   ·intro e; omega
theorem u8_lt (a b : UInt8) : (a < b) ↔ a.toNat < b.toNat := UInt8.lt_iff_toNat_lt
theorem half_cmp {R : List UInt8} (h : R.all isd = true) (hne : R ≠ []) :
  (Lib.compareBytes (tr48 R) [53] > 0 ↔ 10 ^ R.length < 2 * dval R) ∧ (Lib.compareBytes (tr48 R) [53] = 0 ↔ 10 ^ R.length = 2 * dval R) := by
 cases R with
 | nil => exact absurd rfl hne
 | cons c v =>
  rw [List.all_cons, Bool.and_eq_true] at h
  have hc := of_decide_eq_true h.1
  have hz := tr48_zero h.2
  have hlt := dval_lt h.2
  have hp : 0 < 10 ^ v.length := Nat.pow_pos (by decide)
  rw [dval_cons, List.length_cons, Nat.pow_succ, tr48_cons]
  have h53 : ((53 : UInt8)).toNat = 53 := rfl
  rcases Nat.lt_trichotomy c.toNat 53 with hlt5 | heq | hgt
  ·have hm : (c.toNat - 48) * 10 ^ v.length ≤ 4 * 10 ^ v.length := Nat.mul_le_mul_right _ (by omega)
   have hcm : c < 53 := (u8_lt _ _).2 (by omega)
   have hcmp : Lib.compareBytes (if tr48 v = [] then (if c = 48 then [] else [c]) else c :: tr48 v) [53] = -1 := by
    split
    ·split
     ·rfl
     ·simp [Lib.compareBytes, hcm]
    ·simp [Lib.compareBytes, hcm]
   rw [hcmp]
   constructor <;> constructor <;> intro h <;> omega
  ·have hc53 : c = 53 := UInt8.toNat_inj.1 (by omega)
   have hn48 : c ≠ 48 := by rw [hc53]; decide
   rw [if_neg hn48, heq, show 53 - 48 = 5 from rfl]
   subst hc53
   by_cases hv : dval v = 0
   ·rw [if_pos (hz.2 hv), hv]
    have hcmp : Lib.compareBytes [53] [53] = 0 := by simp [Lib.compareBytes]
    rw [hcmp]
    constructor <;> constructor <;> intro h <;> omega
   ·have hne2 : tr48 v ≠ [] := fun e => hv (hz.1 e)
    rw [if_neg hne2]
    have hcmp : Lib.compareBytes (53 :: tr48 v) [53] = 1 := by
     cases ht : tr48 v with
     | nil => exact absurd ht hne2
     | cons a b => simp [Lib.compareBytes]
    rw [hcmp]
    constructor <;> constructor <;> intro h <;> omega
  ·have hm : 6 * 10 ^ v.length ≤ (c.toNat - 48) * 10 ^ v.length := Nat.mul_le_mul_right _ (by omega)
   have hn48 : c ≠ 48 := by rintro rfl; exact absurd hgt (by decide)
   have hcm : ¬ c < 53 := fun h => by have := (u8_lt _ _).1 h; omega
   have hcm2 : 53 < c := (u8_lt _ _).2 (by omega)
   have hcmp : Lib.compareBytes (if tr48 v = [] then (if c = 48 then [] else [c]) else c :: tr48 v) [53] = 1 := by
    rw [if_neg hn48]
    split <;> simp [Lib.compareBytes, hcm, hcm2]
   rw [hcmp]
   constructor <;> constructor <;> intro h <;> omega
theorem rnd_again {p : Nat} (hp : p ≠ 0) (hp18 : p ≤ 18) {q : Nat} (hq : q ≤ 10 ^ p) {t : Int} (ht : -400 ≤ t) : Rr.rnd p 0 false q (min (max t (-1000)) 1000) false = Rr.fin p 0 false q t := by
 have main : ∀ t : Int, -400 ≤ t → Rr.rnd p 0 false q t false = Rr.fin p 0 false q t := by
  intro t ht
  by_cases h : dg q ≤ p
  ·have hd : Rr.dropS p q t = 0 := by unfold Rr.dropS; omega
   unfold Rr.rnd
   rw [hd, show Rr.cutG q 0 false = (q, -1, false) from rfl, Rr.up_exact, Int.natCast_zero, Int.add_zero]
  ·have h1 : ¬ q < 10 ^ p := fun h' => h (Rr.dg_le_iff.2 h')
   obtain rfl : q = 10 ^ p := by omega
   have hd1 : dg (10 ^ p) = p + 1 := by have := Rr.dg_mul (n := 1) (by decide) p; rw [Nat.one_mul] at this; rw [this, Rr.dg_one]; omega
   have hd : Rr.dropS p (10 ^ p) t = 1 := by unfold Rr.dropS; rw [hd1]; omega
   have hc := Rr.cut_exact 1 p 1 (by omega)
   rw [Nat.one_mul, Nat.one_mul] at hc
   unfold Rr.rnd
   rw [hd, hc, Rr.up_exact]
   have := Rr.fin_mul p 0 false (10 ^ (p - 1)) (t + 1) 1
   rw [Nat.pow_one, ← Nat.pow_succ, show (p - 1).succ = p by omega, show t + 1 - ((1 : Nat) : Int) = t by omega] at this
   exact this.symm
 rw [main _ (by omega)]
 by_cases h : t ≤ 1000
 ·rw [show min (max t (-1000)) 1000 = t by omega]
 ·rw [show min (max t (-1000)) 1000 = 1000 by omega]
  unfold Rr.fin
  by_cases hz : q = 0
  ·rw [if_pos hz, if_pos hz]
  ·have h1 : (dg q : Int) + 1000 > p + 400 := by omega
   have h2 : (dg q : Int) + t > p + 400 := by omega
   rw [if_neg hz, if_neg hz, if_pos h1, if_pos h2]
theorem rnd_low {p n : Nat} {neg : Bool} {e : Int} (h : dg n < Rr.dropS p n e) : Rr.rnd p 0 neg n e false = ((0, 0), 0) := by
 have h10 : 10 ^ dg n * 10 ≤ 10 ^ Rr.dropS p n e := by rw [← Nat.pow_succ]; exact Nat.pow_le_pow_right (by decide) h
 have hn := dg_lt n
 have h1 : n % 10 ^ Rr.dropS p n e = n := Nat.mod_eq_of_lt (by omega)
 have h2 : n / 10 ^ Rr.dropS p n e = 0 := Nat.div_eq_of_lt (by omega)
 have hd0 : Rr.dropS p n e ≠ 0 := by omega
 have hup : Rr.up 0 neg (Rr.cutG n (Rr.dropS p n e) false) = 0 := by
  unfold Rr.cutG
  rw [if_neg hd0, h1, h2]
  have h3 : Rr.sdS n (10 ^ Rr.dropS p n e) false = -1 := by
   unfold Rr.sdS; rw [if_neg (by omega), if_pos (by omega)]
  rw [h3]; rfl
 unfold Rr.rnd
 rw [hup]; unfold Rr.fin; rw [if_pos rfl]
theorem up_num (A K R : Nat) (b : Bool) (hR : R < K) : Rr.up 0 false (A, Rr.sdS R K false, b) = A + if K < 2 * R ∨ K = 2 * R ∧ A % 2 = 1 then 1 else 0 := by
 unfold Rr.up Rr.awayS Rr.sdS
 simp only [Bool.false_eq_true, if_false, if_true]
 rcases Nat.lt_trichotomy K (2 * R) with h | h | h
 ·have hc : K < 2 * R ∨ K = 2 * R ∧ A % 2 = 1 := .inl h
  have h1 : ¬ R = K - R := by omega
  have h2 : ¬ R < K - R := by omega
  rw [if_pos hc, if_neg h1, if_neg h2]; simp
 ·have h1 : R = K - R := by omega
  rw [if_pos h1]
  by_cases ho : A % 2 = 1
  ·have hc : K < 2 * R ∨ K = 2 * R ∧ A % 2 = 1 := .inr ⟨h, ho⟩
   rw [if_pos hc]; simp [ho]
  ·have hc : ¬ (K < 2 * R ∨ K = 2 * R ∧ A % 2 = 1) := by rintro (h2 | h2) <;> omega
   rw [if_neg hc]; simp [ho]
 ·have hc : ¬ (K < 2 * R ∨ K = 2 * R ∧ A % 2 = 1) := by rintro (h2 | h2) <;> omega
  have h1 : ¬ R = K - R := by omega
  have h2 : R < K - R := by omega
  rw [if_neg hc, if_neg h1, if_pos h2]; simp
theorem mk_ev {s : Int} (hs : szOk s) {q : Nat} (hq : q ≤ 10 ^ Rr.pd s) {t : Int} (ht : -400 ≤ t) : Ev (fun k => reals_Make.f k s 0 (q : Int) t) (Rr.flat (Rr.fin (Rr.pd s) 0 false q t)) := by
 have hp := Rr.pd_of (er_ok hs)
 have h18 : 10 ^ Rr.pd s ≤ 10 ^ 18 := Nat.pow_le_pow_right (by decide) (by omega)
 have h := Rr.pmake_is s 0 (q : Int) t (by omega) (by omega)
 unfold Rr.makeS at h
 rw [if_pos ⟨er_ok hs, by decide, by decide⟩, decide_eq_false (by omega), Int.natAbs_natCast, rnd_again (by omega) (by omega) hq ht] at h
 exact h
theorem drop_low (p n : Nat) (e : Int) : -400 ≤ e + (Rr.dropS p n e : Int) := by unfold Rr.dropS; omega
theorem prounded_ev {s : Int} (hs : szOk s) {D : List UInt8} (hD : D.all isd = true) (hl : D.length ≤ 4000) {e : Int} (h0 : -2000000000000 ≤ e) (h1 : e ≤ 2000000000000) :
  Ev (fun k => texts_rounded.f k s (B D) e) (RR s false (dval D) e) := by
 have hp := Rr.pd_of (er_ok hs)
 have hpd := Rr.pdigits_is s
 rw [er_ok hs] at hpd
 obtain ⟨Z, hZ, hZa, hZv, hZd, hZl⟩ := strip48 hD
 have htl : strings_TrimLeft.f (B D) (⟨#[48]⟩ : ByteArray) = some (B Z) := by
  unfold strings_TrimLeft.f
  rw [if_pos ⟨by decide, by rw [B_size]; omega⟩]
  congr 1
  show B (D.dropWhile (([48] : List UInt8).contains ·)) = _
  rw [hZ]
 have zero : ∀ dr : Int, Ev (fun k => texts_rounded.j0 k s (B Z) e dr true) (0, 0, 0) := by
  intro dr
  refine Ev.step (f := fun _ => some (0, 0, 0)) (fun k => ?_) (Ev.now _)
  simp only [texts_rounded.j0]; rw [if_pos trivial]
 unfold RR
 have hmx : mx (mx (wrap64 ((Z.length : Int) - (Rr.pd s : Int))) (wrap64 ((-400) - e))) 0 = ((Rr.dropS (Rr.pd s) (dval D) e : Nat) : Int) := by
  rw [t64 (by omega) (by omega), t64 (by omega) (by omega)]
  unfold Rr.dropS mx
  rw [hZd]
  split <;> split <;> omega
 have hlow := drop_low (Rr.pd s) (dval D) e
 by_cases hz : Z = []
 ·have hv : dval D = 0 := by rw [← hZv, hz]; rfl
  rw [hv, Rr.rnd_zero]
  refine ev_of (zero (mx (mx (wrap64 ((Z.length : Int) - (Rr.pd s : Int))) (wrap64 ((-400) - e))) 0)) (fun k e1 => ?_)
  unfold texts_rounded.f
  rw [hpd, Option.bind_some, htl, Option.bind_some, if_pos (by rw [B_toList]; exact hz), B_size]
  exact e1
 by_cases hbig : Rr.dropS (Rr.pd s) (dval D) e > Z.length
 ·rw [rnd_low (by omega)]
  refine ev_of (zero ((Rr.dropS (Rr.pd s) (dval D) e : Nat) : Int)) (fun k e1 => ?_)
  unfold texts_rounded.f
  rw [hpd, Option.bind_some, htl, Option.bind_some, if_neg (by rw [B_toList]; exact hz), B_size]
  show texts_rounded.j0 k s (B Z) e (mx (mx (wrap64 ((Z.length : Int) - (Rr.pd s : Int))) (wrap64 ((-400) - e))) 0) (decide ((mx (mx (wrap64 ((Z.length : Int) - (Rr.pd s : Int))) (wrap64 ((-400) - e))) 0) > (Z.length : Int))) = _
  rw [hmx, decide_eq_true (by omega)]
  exact e1
 have hnb := hbig
 have hdrop : dg (dval D) - Rr.pd s ≤ Rr.dropS (Rr.pd s) (dval D) e := by unfold Rr.dropS; omega
 have hup := Rr.up_lt (Rr.pd s) 0 false (dval D) e false
 have hrnd : Rr.rnd (Rr.pd s) 0 false (dval D) e false = Rr.fin (Rr.pd s) 0 false (Rr.up 0 false (Rr.cutG (dval D) (Rr.dropS (Rr.pd s) (dval D) e) false)) (e + (Rr.dropS (Rr.pd s) (dval D) e : Int)) := rfl
 rw [hrnd]
 generalize Rr.dropS (Rr.pd s) (dval D) e = dr at *
 have hdz : dr ≤ Z.length := by omega
 have hmk := mk_ev hs hup hlow
 -- what is kept and what is dropped
 have hK := (List.take_append_drop (Z.length - dr) Z).symm
 have hKa : (Z.take (Z.length - dr)).all isd = true := List.all_eq_true.2 fun c hc => List.all_eq_true.1 hZa c (List.mem_of_mem_take hc)
 have hRa : (Z.drop (Z.length - dr)).all isd = true := List.all_eq_true.2 fun c hc => List.all_eq_true.1 hZa c (List.mem_of_mem_drop hc)
 have hKl : (Z.take (Z.length - dr)).length = Z.length - dr := by rw [List.length_take]; omega
 have hRl : (Z.drop (Z.length - dr)).length = dr := by rw [List.length_drop]; omega
 have hval : dval D = dval (Z.take (Z.length - dr)) * 10 ^ dr + dval (Z.drop (Z.length - dr)) := by
  rw [← hZv]
  conv => lhs; rw [hK]
  rw [dval_app, hRl]
 have hrlt := dval_lt hRa
 have hklt := dval_lt hKa
 rw [hRl] at hrlt
 rw [hKl] at hklt
 have hk18 : dval (Z.take (Z.length - dr)) < 10 ^ 18 := Nat.lt_of_lt_of_le hklt (Nat.pow_le_pow_right (by decide) (by omega))
 have hext1 : (B Z).extract 0 (Z.length - dr) = B (Z.take (Z.length - dr)) := by rw [B_ext, List.drop_zero, Nat.sub_zero]
 have hext2 : (B Z).extract (Z.length - dr) Z.length = B (Z.drop (Z.length - dr)) := by have := B_from Z (Z.length - dr); rw [B_size] at this; exact this
 have hnum := number_is (M := 4611686018427387904) hKa (by omega) (by decide) (by decide)
 rw [if_pos (by omega)] at hnum
 have hpos : 0 < 10 ^ dr := Nat.pow_pos (by decide)
 have hdiv : dval D / 10 ^ dr = dval (Z.take (Z.length - dr)) := by
  rw [hval, Nat.mul_comm, Nat.mul_add_div hpos, Nat.div_eq_of_lt hrlt, Nat.add_zero]
 have hmod : dval D % 10 ^ dr = dval (Z.drop (Z.length - dr)) := by
  rw [hval, Nat.mul_comm, Nat.mul_add_mod, Nat.mod_eq_of_lt hrlt]
 have hhalf := half_cmp hRa
 have hw1 : wrap64 (e + (dr : Int)) = e + dr := t64 (by omega) (by omega)
 have hw2 : wrap64 ((Z.length : Int) - (dr : Int)) = ((Z.length - dr : Nat) : Int) := by rw [t64 (by omega) (by omega)]; omega
 have hcase : Rr.up 0 false (Rr.cutG (dval D) dr false) = dval (Z.take (Z.length - dr)) + (if dr ≠ 0 ∧ (10 ^ dr < 2 * dval (Z.drop (Z.length - dr)) ∨ 10 ^ dr = 2 * dval (Z.drop (Z.length - dr)) ∧ dval (Z.take (Z.length - dr)) % 2 = 1) then 1 else 0) := by
  unfold Rr.cutG
  by_cases hd0 : dr = 0
  ·have h1 : 10 ^ dr = 1 := by rw [hd0]
   rw [if_pos hd0, Rr.up_exact, if_neg (fun h => h.1 hd0)]
   rw [h1, Nat.div_one] at hdiv
   exact hdiv
  ·rw [if_neg hd0, hdiv, hmod, up_num _ _ _ _ hrlt]
   congr 1
   simp only [ne_eq, hd0, not_false_eq_true, true_and]
 obtain ⟨I, hI1, hI0, hIe⟩ : ∃ I : Nat, ((dr ≠ 0 ∧ (10 ^ dr < 2 * dval (Z.drop (Z.length - dr)) ∨ 10 ^ dr = 2 * dval (Z.drop (Z.length - dr)) ∧ dval (Z.take (Z.length - dr)) % 2 = 1)) → I = 1) ∧ (¬ (dr ≠ 0 ∧ (10 ^ dr < 2 * dval (Z.drop (Z.length - dr)) ∨ 10 ^ dr = 2 * dval (Z.drop (Z.length - dr)) ∧ dval (Z.take (Z.length - dr)) % 2 = 1)) → I = 0) ∧ (if dr ≠ 0 ∧ (10 ^ dr < 2 * dval (Z.drop (Z.length - dr)) ∨ 10 ^ dr = 2 * dval (Z.drop (Z.length - dr)) ∧ dval (Z.take (Z.length - dr)) % 2 = 1) then 1 else 0) = I := ⟨_, fun h => if_pos h, fun h => if_neg h, rfl⟩
 rw [hIe] at hcase
 rw [hcase] at hmk hup ⊢
 clear hcase hIe hdiv hmod hval hrnd
 generalize dval (List.take (Z.length - dr) Z) = A at *
 generalize dval (List.drop (Z.length - dr) Z) = R at *
 have hj : ∀ k, texts_rounded.f (k + 1) s (B D) e = reals_Make.f k s 0 ((A + I : Nat) : Int) (e + dr) := by
  intro k
  unfold texts_rounded.f
  rw [hpd, Option.bind_some, htl, Option.bind_some, if_neg (by rw [B_toList]; exact hz), B_size]
  show texts_rounded.j0 (k + 1) s (B Z) e (mx (mx (wrap64 ((Z.length : Int) - (Rr.pd s : Int))) (wrap64 ((-400) - e))) 0) (decide ((mx (mx (wrap64 ((Z.length : Int) - (Rr.pd s : Int))) (wrap64 ((-400) - e))) 0) > (Z.length : Int))) = _
  rw [hmx, decide_eq_false (by omega)]
  have hsame : ∀ (o : Option (Int × Int × Int)), (o.bind fun b => some (b.1, b.2.1, b.2.2)) = o := by intro o; cases o <;> rfl
  simp only [texts_rounded.j0]
  rw [if_neg (by simp), B_size, hw2, if_pos (by omega), if_pos (by omega), Int.toNat_natCast, hext1, hnum, Option.bind_some, hext2, hw1, B_toList]
  dsimp only
  have hw3 : wrap64 (((A : Nat) : Int) + 1) = ((A + 1 : Nat) : Int) := by rw [t64 (by omega) (by omega)]; omega
  by_cases hR : Z.drop (Z.length - dr) = []
  ·have hd0 : dr = 0 := by rw [← hRl, hR]; rfl
   rw [if_pos hR, hsame, hI0 (fun h => h.1 hd0)]; rfl
  ·have hd0 : dr ≠ 0 := fun h => hR (List.length_eq_zero_iff.1 (by rw [hRl]; exact h))
   have hh := hhalf hR
   rw [hRl] at hh
   have htr : strings_TrimRight.f (B (Z.drop (Z.length - dr))) (⟨#[48]⟩ : ByteArray) = some (B (tr48 (Z.drop (Z.length - dr)))) := by
    unfold strings_TrimRight.f
    rw [if_pos ⟨by decide, by rw [B_size, hRl]; omega⟩]; rfl
   have hcm : strings_Compare.f (B (tr48 (Z.drop (Z.length - dr)))) (⟨#[53]⟩ : ByteArray) = some (Lib.compareBytes (tr48 (Z.drop (Z.length - dr))) [53]) := rfl
   rw [if_neg hR, htr, Option.bind_some, hcm, Option.bind_some, hw3]
   by_cases hgt : Lib.compareBytes (tr48 (Z.drop (Z.length - dr))) [53] > 0
   ·rw [if_pos hgt, hsame, hI1 ⟨hd0, .inl (hh.1.1 hgt)⟩]
   ·rw [if_neg hgt]
    by_cases heq : Lib.compareBytes (tr48 (Z.drop (Z.length - dr))) [53] = 0
    ·rw [if_pos heq]
     have hodd : Int.tmod ((A : Nat) : Int) 2 = ((A % 2 : Nat) : Int) := rfl
     rw [hodd]
     by_cases ho : A % 2 = 1
     ·have ho1 : ((A % 2 : Nat) : Int) = 1 := by rw [ho]; rfl
      rw [if_pos ho1, hsame, hI1 ⟨hd0, .inr ⟨hh.2.1 heq, ho⟩⟩]
     ·have ho1 : ¬ ((A % 2 : Nat) : Int) = 1 := fun h => ho (Int.ofNat.inj h)
      rw [if_neg ho1, hsame, hI0 (fun h => by rcases h.2 with h2 | h2; exact hgt (hh.1.2 h2); exact ho h2.2)]; rfl
    ·rw [if_neg heq, hsame, hI0 (fun h => by rcases h.2 with h2 | h2; exact hgt (hh.1.2 h2); exact heq (hh.2.2 h2.1))]; rfl
 exact Ev.step hj hmk
theorem rnd_high {p n : Nat} {neg : Bool} {e : Int} (hp : p ≠ 0) (hp18 : p ≤ 18) (hn : n ≠ 0) (he : 100000000 ≤ e) : Rr.rnd p 0 neg n e false = ((0, 0), 11) := by
 have hd : Rr.dropS p n e = dg n - p := by unfold Rr.dropS; omega
 have hdn : 1 ≤ dg n := by rw [dg_pos hn]; omega
 have hle := (Rr.up_le 0 neg n (Rr.dropS p n e) false).1
 have hq : n / 10 ^ Rr.dropS p n e ≠ 0 := by
  intro h0
  have := Rr.dg_div n (Rr.dropS p n e)
  rw [h0, dg_zero, hd] at this; omega
 unfold Rr.rnd Rr.fin
 generalize Rr.up 0 neg (Rr.cutG n (Rr.dropS p n e) false) = q at *
 have hq0 : q ≠ 0 := Nat.pos_iff_ne_zero.1 (Nat.lt_of_lt_of_le (Nat.pos_of_ne_zero hq) hle)
 have h1 : (dg q : Int) + (e + (Rr.dropS p n e : Nat)) > p + 400 := by omega
 rw [if_neg hq0, if_pos h1]; rfl
theorem rr_far {s : Int} (hs : szOk s) {n : Nat} (hn : dg n ≤ 4000) {e e' : Int} (h : e = e' ∨ (100000000 ≤ e ∧ 100000000 ≤ e') ∨ (e ≤ -100000000 ∧ e' ≤ -100000000)) : RR s false n e = RR s false n e' := by
 have hp := Rr.pd_of (er_ok hs)
 rcases h with rfl | ⟨h1, h2⟩ | ⟨h1, h2⟩
 ·rfl
 ·unfold RR
  by_cases hz : n = 0
  ·subst hz; rw [Rr.rnd_zero, Rr.rnd_zero]
  ·rw [rnd_high (by omega) (by omega) hz h1, rnd_high (by omega) (by omega) hz h2]
 ·unfold RR
  rw [rnd_low (by unfold Rr.dropS; omega), rnd_low (by unfold Rr.dropS; omega)]
theorem rr_neg {s : Int} (hs : szOk s) (n : Nat) (e : Int) : RR s true n e = (wrap64 (-(RR s false n e).1), (RR s false n e).2.1, (RR s false n e).2.2) := by
 have hp := Rr.pd_of (er_ok hs)
 have h18 : 10 ^ Rr.pd s ≤ 10 ^ 18 := Nat.pow_le_pow_right (by decide) (by omega)
 have hup := Rr.up_lt (Rr.pd s) 0 false n e false
 have hsame : Rr.up 0 true (Rr.cutG n (Rr.dropS (Rr.pd s) n e) false) = Rr.up 0 false (Rr.cutG n (Rr.dropS (Rr.pd s) n e) false) := rfl
 unfold RR Rr.rnd
 rw [hsame]
 generalize Rr.up 0 false (Rr.cutG n (Rr.dropS (Rr.pd s) n e) false) = q at *
 generalize e + (Rr.dropS (Rr.pd s) n e : Int) = t
 unfold Rr.fin
 have hw0 : wrap64 (-0) = 0 := t64 (by decide) (by decide)
 by_cases hz : q = 0
 ·rw [if_pos hz, if_pos hz]
  show ((0 : Int), (0 : Int), (0 : Int)) = (wrap64 (-0), 0, 0)
  rw [hw0]
 ·rw [if_neg hz, if_neg hz]
  by_cases hb : (dg q : Int) + t > (Rr.pd s : Int) + 400
  ·rw [if_pos hb, if_pos hb]
   show ((0 : Int), (0 : Int), (11 : Int)) = (wrap64 (-0), 0, 11)
   rw [hw0]
  ·rw [if_neg hb, if_neg hb]
   obtain ⟨k, h1, _, _⟩ := Rr.strip_val q t hz
   have hk : 0 < 10 ^ k := Nat.pow_pos (by decide)
   have hle : (Rr.strip q t).1 ≤ q := by
    have := Nat.le_mul_of_pos_right (Rr.strip q t).1 hk
    omega
   generalize Rr.strip q t = x at *
   show (-(x.1 : Int), x.2, (0 : Int)) = (wrap64 (-(x.1 : Int)), x.2, 0)
   rw [t64 (by omega) (by omega)]
theorem preal_ev {s : Int} (hs : szOk s) {w f x : List UInt8} (hw : w.all isd = true) (hf : f.all isd = true) (hne : w ++ f ≠ []) (hx : ExpOk x) (hl : (w ++ (dotL f ++ exL x)).length ≤ 3000) :
  Ev (fun k => texts_Real.f k s (B (w ++ (dotL f ++ exL x)))) (RR s false (dval (w ++ f)) (expV 1099511627776 x - (f.length : Int))) := by
 have hall : (w ++ f).all isd = true := by rw [List.all_append, hw, hf]; rfl
 have hlen : w.length + (dotL f).length + (exL x).length ≤ 3000 := by rw [List.length_append, List.length_append] at hl; omega
 have hdl := dotL_len f
 have hel := exL_len x
 have hwfl : (w ++ f).length ≤ 3000 := by
  rw [List.length_append]; split at hdl
  ·rename_i h; rw [h]; simp; omega
  ·omega
 have hxl : x.length ≤ 3000 := by
  split at hel
  ·rename_i h; rw [h]; simp
  ·omega
 have hpar := pparts_ev (l := w ++ (dotL f ++ exL x)) (by omega)
 rw [parts_again hw hf hne hx] at hpar
 have hcl := clamped_is hx (by omega)
 have hb : -1099511627776 ≤ expV 1099511627776 x ∧ expV 1099511627776 x ≤ 1099511627776 := by unfold expV; split <;> split <;> omega
 have hfl : f.length ≤ 3000 := by rw [List.length_append] at hwfl; omega
 have hr := prounded_ev hs hall (by omega) (e := expV 1099511627776 x - (f.length : Int)) (by omega) (by omega)
 have hsame : ∀ (o : Option (Int × Int × Int)), (o.bind fun b => some (b.1, b.2.1, b.2.2)) = o := by intro o; cases o <;> rfl
 have hpos : w.length + (dotL f).length + (exL x).length ≠ 0 := by
  intro h0
  refine hne (List.append_eq_nil_iff.2 ⟨List.length_eq_zero_iff.1 (by omega), ?_⟩)
  split at hdl
  ·assumption
  ·omega
 have hj : Ev (fun k => texts_Real.j0 k s (B w) (B f) (B x) false) (RR s false (dval (w ++ f)) (expV 1099511627776 x - (f.length : Int))) := by
  refine Ev.step (fun k => ?_) hr
  simp only [texts_Real.j0]
  rw [if_neg (by simp), if_pos (by rw [B_size, B_size]; rw [List.length_append] at hwfl; omega), hcl, Option.bind_some, B_app, B_size, t64 (by omega) (by omega), hsame]
 refine ev_of2 hpar hj (fun k e1 e2 => ?_)
 unfold texts_Real.f
 have hn0 : ¬ (((w.length + (dotL f).length + (exL x).length : Nat) : Int) = 0) := by omega
 have hsz : ((B (w ++ (dotL f ++ exL x))).size : Int) = ((w.length + (dotL f).length + (exL x).length : Nat) : Int) := by rw [B_size, List.length_append, List.length_append]; omega
 rw [psize_ok hs, Option.bind_some, if_pos rfl, e1, Option.bind_some]
 show (if (((w.length + (dotL f).length + (exL x).length : Nat) : Int) = 0) then texts_Real.j0 k s (B w) (B f) (B x) true else texts_Real.j0 k s (B w) (B f) (B x) (decide (((w.length + (dotL f).length + (exL x).length : Nat) : Int) < ((B (w ++ (dotL f ++ exL x))).size : Int)))) = _
 rw [if_neg hn0, hsz, decide_eq_false (by omega)]
 exact e2
theorem preal_nil {s : Int} (hs : szOk s) : Ev (fun k => texts_Real.f k s (B [])) (0, 0, 9) := by
 have hpar := pparts_ev (l := []) (by decide)
 have hp0 : partsB (partsL []) = (B [], B [], B [], 0) := rfl
 rw [hp0] at hpar
 have hj : Ev (fun k => texts_Real.j0 k s (B []) (B []) (B []) true) (0, 0, 9) := by
  refine Ev.step (f := fun _ => some (0, 0, 9)) (fun k => ?_) (Ev.now _)
  simp only [texts_Real.j0]
  rw [if_pos trivial]
 refine ev_of2 hpar hj (fun k e1 e2 => ?_)
 unfold texts_Real.f
 rw [psize_ok hs, Option.bind_some, if_pos rfl, e1, Option.bind_some, if_pos rfl]
 exact e2
theorem take_bound {l t : List UInt8} {a N : Nat} (h : (l.drop a).take N = t) (ht : t.length = N) (ha : a ≤ l.length) : a + N ≤ l.length := by
 have := congrArg List.length h
 rw [List.length_take, List.length_drop, ht] at this; omega
theorem preadreal_join {s : Int} {l t : List UInt8} {a N : Nat} {b : Bool} {pw pf px : ByteArray} {R : Int × Int × Int} (hs : szOk s) (hl : l.length ≤ 2000) (hN : a + N ≤ l.length)
  (hp : Ev (fun k => texts_start.f k (B l) (B signs2)) ((a : Int), b, 0)) (hpar : Ev (fun k => texts_parts.f k (B (l.drop a))) (pw, pf, px, (N : Int)))
  (hext : (B l).extract a (a + N) = B t) (hre : Ev (fun k => texts_Real.f k s (B t)) R) :
  Ev (fun k => texts_ReadReal.f k s (B l)) (if b = true then wrap64 (-R.1) else R.1, R.2.1, ((a + N : Nat) : Int), R.2.2) := by
 have hsg : (⟨#[43, 45]⟩ : ByteArray) = B signs2 := rfl
 have hw1 : wrap64 ((a : Int) + (N : Int)) = ((a + N : Nat) : Int) := by rw [t64 (by omega) (by omega)]; omega
 refine ev_of3 hp hpar hre (fun n e1 e2 e3 => ?_)
 unfold texts_ReadReal.f
 rw [psize_ok hs, hsg, Option.bind_some, if_pos rfl, e1, Option.bind_some, if_pos (by trivial), if_pos (by omega), if_pos (by rw [B_size]; omega), Int.toNat_natCast, B_from, e2, Option.bind_some]
 show (if (a : Int) ≤ wrap64 ((a : Int) + (N : Int)) then (if wrap64 ((a : Int) + (N : Int)) ≤ ((B l).size : Int) then ((texts_Real.f n s ((B l).extract a ((wrap64 ((a : Int) + (N : Int))) : Int).toNat)).bind fun bt303 => if b = true then some (wrap64 (-bt303.1), bt303.2.1, wrap64 ((a : Int) + (N : Int)), bt303.2.2) else some (bt303.1, bt303.2.1, wrap64 ((a : Int) + (N : Int)), bt303.2.2)) else none) else none) = _
 rw [hw1, if_pos (by omega), if_pos (by rw [B_size]; omega), Int.toNat_natCast, hext, e3, Option.bind_some]
 cases b <;> rfl
theorem rreadreal_join {s : Int} {l t : List UInt8} {a N : Nat} {b : Bool} {p : Int} {R : Int × Int × Int} (hrd : environref02_Digits.f s = some (p, 0)) (hl : l.length ≤ 2000) (hN : a + N ≤ l.length) (hN0 : N ≠ 0)
  (hr : Ev (fun k => environref03_begin.f k (B l)) ((a : Int), b, 0)) (hlen : Ev (fun k => environref03_length.f k (B l) (a : Int)) (N : Int))
  (hext : (B l).extract a (a + N) = B t) (hre : Ev (fun k => environref03_real.f k s b (B t)) R) :
  Ev (fun k => environref03_ReadReal.f k s (B l)) (R.1, R.2.1, ((a + N : Nat) : Int), R.2.2) := by
 have hw1 : wrap64 ((a : Int) + (N : Int)) = ((a + N : Nat) : Int) := by rw [t64 (by omega) (by omega)]; omega
 refine ev_of3 hr hlen hre (fun n e1 e2 e3 => ?_)
 unfold environref03_ReadReal.f
 rw [hrd, Option.bind_some, if_pos rfl, e1, Option.bind_some, if_pos (by trivial), e2, Option.bind_some, if_neg (by omega)]
 show (if 0 ≤ (a : Int) then (if (a : Int) ≤ wrap64 ((a : Int) + (N : Int)) then (if wrap64 ((a : Int) + (N : Int)) ≤ ((B l).size : Int) then ((environref03_real.f n s b ((B l).extract a ((wrap64 ((a : Int) + (N : Int))) : Int).toNat)).bind fun bt664 => some (bt664.1, bt664.2.1, wrap64 ((a : Int) + (N : Int)), bt664.2.2)) else none) else none) else none) = _
 rw [if_pos (by omega), hw1, if_pos (by omega), if_pos (by rw [B_size]; omega), Int.toNat_natCast, hext, e3]; rfl
theorem rreadreal_none {s : Int} {l : List UInt8} {a : Nat} {b : Bool} {p : Int} (hrd : environref02_Digits.f s = some (p, 0)) (hr : Ev (fun k => environref03_begin.f k (B l)) ((a : Int), b, 0)) (hlen : Ev (fun k => environref03_length.f k (B l) (a : Int)) 0) :
  Ev (fun k => environref03_ReadReal.f k s (B l)) (0, 0, (a : Int), 9) := by
 refine ev_of2 hr hlen (fun n e1 e2 => ?_)
 unfold environref03_ReadReal.f
 rw [hrd, Option.bind_some, if_pos rfl, e1, Option.bind_some, if_pos (by trivial), e2, Option.bind_some, if_pos rfl]
theorem exp_far {s : Int} (hs : szOk s) {n fl : Nat} (hn : dg n ≤ 4000) (hf : fl ≤ 3000) (x : List UInt8) : RR s false n (expV 1099511627776 x - (fl : Int)) = RR s false n (-(fl : Int) + expV 1000000000 x) := by
 refine rr_far hs hn ?_
 clear hn hs
 unfold expV
 generalize dval (xdig x) = v
 cases xneg x
 ·simp only [Bool.false_eq_true, if_false]
  by_cases hv : (v : Int) ≤ 1000000000
  ·left; rw [if_pos hv, if_pos (show (v : Int) ≤ 1099511627776 by omega)]; omega
  ·right; left; rw [if_neg hv]; split <;> omega
 ·simp only [if_true]
  by_cases hv : (v : Int) ≤ 1000000000
  ·left; rw [if_pos hv, if_pos (show (v : Int) ≤ 1099511627776 by omega)]; omega
  ·right; right; rw [if_neg hv]; split <;> omega
theorem parts_len {w f x : List UInt8} (hne : w ++ f ≠ []) : w.length + (dotL f).length + (exL x).length ≠ 0 ∧ (w ++ f).length ≤ w.length + (dotL f).length + (exL x).length ∧ (w ++ (dotL f ++ exL x)).length = w.length + (dotL f).length + (exL x).length := by
 have hdl := dotL_len f
 have hp := List.length_pos_iff.2 hne
 rw [List.length_append] at hp
 rw [List.length_append, List.length_append, List.length_append]
 have : f.length ≤ (dotL f).length := by
  rw [hdl]; split
  ·rename_i h; rw [h]; exact Nat.le_refl _
  ·omega
 clear hdl
 omega
theorem readreal_both {s : Int} {l : List UInt8} (hl : l.length ≤ 2000) : ∃ r, Ev (fun k => texts_ReadReal.f k s (B l)) r ∧ Ev (fun k => environref03_ReadReal.f k s (B l)) r := by
 have hp := pstart_ev signs2 (l := l) (by omega)
 have hr := rbegin_ev (l := l) (by omega)
 have hsg : (⟨#[43, 45]⟩ : ByteArray) = B signs2 := rfl
 by_cases hs : szOk s
 ·have hrd : ∃ p, environref02_Digits.f s = some (p, 0) := by rcases hs with rfl | rfl | rfl <;> exact ⟨_, rfl⟩
  obtain ⟨p, hrd⟩ := hrd
  rcases startL_spec signs2 l with ⟨a, b, h, ha⟩ | ⟨a, h⟩
  ·rw [h] at hp hr
   have hpar := pparts_ev (l := l.drop a) (by rw [List.length_drop]; omega)
   have hlen := rlen_ev (l := l) (by omega) ha
   rcases parts_form (l.drop a) with hn | ⟨w, f, x, hn, htk, hw, hf, hne, hx⟩
   ·rw [hn] at hpar hlen
    have hx0 : (B l).extract a (a + 0) = B [] := by rw [B_part]; rfl
    have h1 := preadreal_join (N := 0) hs hl ha hp hpar hx0 (preal_nil hs)
    have h2 := rreadreal_none hrd hr hlen
    refine ⟨_, ?_, h2⟩
    have hw0 : wrap64 (-0) = 0 := t64 (by decide) (by decide)
    cases b
    ·exact h1
    ·have e : (if true = true then wrap64 (-((0 : Int), (0 : Int), (9 : Int)).1) else ((0 : Int), (0 : Int), (9 : Int)).1, ((0 : Int), (0 : Int), (9 : Int)).2.1, ((a + 0 : Nat) : Int), ((0 : Int), (0 : Int), (9 : Int)).2.2) = (0, 0, (a : Int), 9) := by
      show (wrap64 (-0), (0 : Int), (a : Int), (9 : Int)) = _
      rw [hw0]
     rw [e] at h1; exact h1
   ·obtain ⟨hpos, hwfl, hcat⟩ := parts_len (x := x) hne
    have hN := take_bound htk hcat ha
    have hfl : f.length ≤ (w ++ f).length := by rw [List.length_append]; exact Nat.le_add_left _ _
    have hL : (w ++ (dotL f ++ exL x)).length ≤ 2000 := by rw [hcat]; exact Nat.le_trans (Nat.le_trans (Nat.le_add_left _ a) hN) hl
    have hwf2 : (w ++ f).length ≤ 2000 := by rw [hcat] at hL; exact Nat.le_trans hwfl hL
    have hpre := preal_ev hs hw hf hne hx (Nat.le_trans hL (by decide))
    have hrre := rreal_ev hs b hw hf hx (Nat.le_trans hL (by decide))
    have hall : (w ++ f).all isd = true := by rw [List.all_append, hw, hf]; rfl
    have hdg : dg (dval (w ++ f)) ≤ 4000 := Nat.le_trans (Rr.dg_le_iff.2 (dval_lt hall)) (Nat.le_trans hwf2 (by decide))
    rw [exp_far hs hdg (Nat.le_trans hfl (Nat.le_trans hwf2 (by decide))) x] at hpre
    have hext := B_part l a (w.length + (dotL f).length + (exL x).length)
    rw [htk] at hext
    rw [hn] at hpar hlen
    generalize w.length + (dotL f).length + (exL x).length = N at *
    have h1 := preadreal_join (N := N) hs hl hN hp hpar hext hpre
    have h2 := rreadreal_join (N := N) hrd hl hN hpos hr hlen hext hrre
    refine ⟨_, ?_, h2⟩
    cases b
    ·exact h1
    ·rw [rr_neg hs]; exact h1
  ·rw [h] at hp hr
   refine ⟨(0, 0, (a : Int), 16), ?_, ?_⟩
   ·refine ev_of hp (fun n e1 => ?_)
    unfold texts_ReadReal.f
    rw [psize_ok hs, hsg, Option.bind_some, if_pos rfl, e1, Option.bind_some, if_neg (show ¬ ((16 : Int) = 0) by decide)]
   ·refine ev_of hr (fun n e1 => ?_)
    unfold environref03_ReadReal.f
    rw [hrd, Option.bind_some, if_pos rfl, e1, Option.bind_some, if_neg (show ¬ ((16 : Int) = 0) by decide)]
 ·have hno := sz_no hs
  have hrd : environref02_Digits.f s = some (0, 1) := by unfold environref02_Digits.f; rw [if_neg hno.1, if_neg hno.2.1, if_neg hno.2.2]
  refine ⟨(0, 0, 0, 1), ?_, ?_⟩
  ·refine Ev.congr (f := fun _ => some (0, 0, 0, 1)) (fun k => ?_) (Ev.now _)
   unfold texts_ReadReal.f
   rw [psize_no hs, Option.bind_some, if_neg (by decide)]
  ·refine Ev.congr (f := fun _ => some (0, 0, 0, 1)) (fun k => ?_) (Ev.now _)
   unfold environref03_ReadReal.f
   rw [hrd, Option.bind_some, if_neg (by decide)]
theorem awakeR : Ev (fun k => environlaw03_awake.f k) true := Ev.of (fun k => environlaw03_awake.mono k) (k := 1200) (by decide +kernel)
theorem textsReads_ev (s : Int) (t : ByteArray) : Ev (fun k => environlaw03_TextsReads.f k s t) true := by
 obtain ⟨l, rfl⟩ : ∃ l, t = B l := ⟨_, B_of t⟩
 by_cases hl : l.length > 300
 ·refine ev_of awakeR (fun k e1 => ?_)
  unfold environlaw03_TextsReads.f
  rw [e1, Option.bind_some, if_pos rfl, if_pos (by rw [B_size]; omega)]
 ·obtain ⟨r1, a1, b1⟩ := readint_both (s := s) (l := l) (by omega)
  obtain ⟨r2, a2, b2⟩ := readreal_both (s := s) (l := l) (by omega)
  obtain ⟨r3, a3, b3⟩ := readword_both (s := s) (l := l) (by omega)
  have j1 : Ev (fun k => environlaw03_TextsReads.j1 k s (B l) false) true := by
   refine Ev.step (f := fun k => (texts_ReadWord.f k s (B l)).bind fun bt693 => (environref03_ReadWord.f k s (B l)).bind fun bt696 => if bt693.1 = bt696.1 then (if bt693.2.1 = bt696.2.1 then some (bt693.2.2 == bt696.2.2) else some false) else some false) (fun k => ?_) (ev_of2 a3 b3 (fun k e1 e2 => ?_))
   ·simp only [environlaw03_TextsReads.j1]; rw [if_neg (by simp)]
   ·rw [e1, Option.bind_some, e2, Option.bind_some, if_pos rfl, if_pos rfl, beq_self_eq_true]
  have j0 : Ev (fun k => environlaw03_TextsReads.j0 k s (B l) false) true := by
   refine Ev.step (f := fun k => (texts_ReadReal.f k s (B l)).bind fun bt683 => (environref03_ReadReal.f k s (B l)).bind fun bt688 => (if (!(bt683.1 == bt688.1) || (!(bt683.2.1 == bt688.2.1))) = true then (environlaw03_TextsReads.j1 k s (B l) true) else (if bt683.2.2.1 = bt688.2.2.1 then (environlaw03_TextsReads.j1 k s (B l) (bt683.2.2.2 != bt688.2.2.2)) else (environlaw03_TextsReads.j1 k s (B l) true)))) (fun k => ?_) (ev_of3 a2 b2 j1 (fun k e1 e2 e3 => ?_))
   ·simp only [environlaw03_TextsReads.j0]; rw [if_neg (by simp)]
   ·rw [e1, Option.bind_some, e2, Option.bind_some, beq_self_eq_true, beq_self_eq_true, if_neg (by simp), if_pos rfl, bne_self_eq_false]; exact e3
  obtain ⟨K, hK⟩ := awakeR
  refine ev_of3 a1 b1 (show Ev (fun k => (environlaw03_awake.f k).bind fun t => (environlaw03_TextsReads.j0 k s (B l) false).bind fun u => some (t, u)) (true, true) from ev_of2 ⟨K, hK⟩ j0 (fun k e1 e2 => by rw [e1, Option.bind_some, e2]; rfl)) (fun k e1 e2 e3 => ?_)
  have hw : environlaw03_awake.f k = some true := by
   cases h : environlaw03_awake.f k with
   | none => rw [h] at e3; cases e3
   | some t =>
    rw [h, Option.bind_some] at e3
    cases h2 : environlaw03_TextsReads.j0 k s (B l) false with
    | none => rw [h2] at e3; cases e3
    | some u =>
     rw [h2, Option.bind_some] at e3
     have := congrArg Prod.fst (Option.some.inj e3)
     exact congrArg some this
  have hj : environlaw03_TextsReads.j0 k s (B l) false = some true := by
   rw [hw, Option.bind_some] at e3
   cases h2 : environlaw03_TextsReads.j0 k s (B l) false with
   | none => rw [h2] at e3; cases e3
   | some u =>
    rw [h2, Option.bind_some] at e3
    have := congrArg Prod.snd (Option.some.inj e3)
    exact congrArg some this
  unfold environlaw03_TextsReads.f
  rw [hw, Option.bind_some, if_pos rfl, if_neg (by rw [B_size]; omega), e1, Option.bind_some, e2, Option.bind_some, if_pos rfl, if_pos rfl, bne_self_eq_false]
  exact hj
theorem textsReads_walk (s : Int) (t : ByteArray) (W : World) (hE : Env W) : Calls Tryz.prog 5 #[.int .i64 s, .string t] W fun e' w' => e' = .returned (.bool true) ∧ Below W.heap.size W w' := by
 obtain ⟨k, h⟩ := (textsReads_ev s t).rounds
 exact environlaw03_TextsReads.calls k s t true W hE h
def I64t (n : Int) : Prop := -9223372036854775808 ≤ n ∧ n ≤ 9223372036854775807
end Go.Proofs.YtckbmniiecbalaaGreatDoor.PT
