import Derived.Test.YtgifknjcdkhmmaaPIntsWordsx4
import Derived.Laws.MathBits
import Derived.Laws.Bits64b
namespace Go.Proofs.Ytgifknjcdkhmmaa.WordsFacts
open Go.RowKit Go.Proofs.Ytgifknjcdkhmmaa.PIntsWords Go.Proofs.YtgifknjcdkhmmaaW.PrintWords Go.Proofs.YtgifknjcdkhmmaaW.PrintLast Go.Proofs.YtgifknjcdkhmmaaW.PrintMore
/-! the sizes: what is there of a size, and what the guards tell -/
def top (s : Int) : Int := if s = -1 then 32767 else if s = 0 then 2147483647 else if s = 1 then 999999999999999999 else 0
def wid (s : Int) : Int := if s = -1 then 16 else if s = 0 then 32 else if s = 1 then 60 else 0
def er (s : Int) : Int := if s = -1 then 0 else if s = 0 then 0 else if s = 1 then 0 else 1
theorem top_bd (s : Int) : 0 ≤ top s ∧ top s ≤ 999999999999999999 := by
  unfold top; repeat' split
  all_goals omega
theorem of_is (s : Int) : ints_of.f s = some (top s, wid s, er s) := by
  unfold ints_of.f top wid er
  repeat' split
  all_goals first | rfl | omega
theorem w64 {n : Int} (h : -9223372036854775808 ≤ n) (h' : n ≤ 9223372036854775807) : wrap64 n = n := by
  unfold wrap64; omega
theorem has_is {M W n : Int} (h0 : 0 ≤ M) (h1 : M ≤ 999999999999999999) : ints_length_has.f M W n = some (decide (-M ≤ n ∧ n ≤ M)) := by
  unfold ints_length_has.f
  rw [w64 (by omega) (by omega)]
  by_cases h : -M ≤ n
  · rw [if_pos h]; congr 1; rw [decide_eq_decide]; exact ⟨fun x => ⟨h, x⟩, fun x => x.2⟩
  · rw [if_neg h]; congr 1; symm; rw [decide_eq_false_iff_not]; exact fun x => h x.1
/-- the error of a list of integers -/
def erI (s : Int) : List Int → Int
  | [] => er s
  | a :: l => if er s ≠ 0 then er s else if -top s ≤ a ∧ a ≤ top s then erI s l else 11
theorem ints1 (s a : Int) (k : Nat) : ints_ints.f (k + 2) s [a] = some (top s, wid s, if er s = 0 then (if -top s ≤ a ∧ a ≤ top s then 0 else 11) else er s) := by
  have hb := top_bd s
  unfold ints_ints.f; rw [of_is]; simp only [Option.bind_some]
  simp only [ints_ints.l0, List.length_singleton]
  rw [if_pos (by decide), if_pos (by decide), if_pos (by decide)]
  have e1 : wrap64 (0 + 1) = 1 := w64 (by omega) (by omega)
  have hr : rd [a] 0 = a := rfl
  rw [e1, hr, has_is hb.1 hb.2]; simp only [Option.bind_some]
  by_cases he : er s = 0
  · by_cases hi : -top s ≤ a ∧ a ≤ top s <;> simp [he, hi]
  · simp [he]
theorem ints2 (s a b : Int) (k : Nat) : ints_ints.f (k + 3) s [a, b] = some (top s, wid s, if er s = 0 then (if (-top s ≤ a ∧ a ≤ top s) ∧ (-top s ≤ b ∧ b ≤ top s) then 0 else 11) else er s) := by
  have hb := top_bd s
  unfold ints_ints.f; rw [of_is]; simp only [Option.bind_some]
  have e1 : wrap64 (0 + 1) = 1 := w64 (by omega) (by omega)
  have e2 : wrap64 (1 + 1) = 2 := w64 (by omega) (by omega)
  have hr : rd [a, b] 0 = a := rfl
  have hr' : rd [a, b] 1 = b := rfl
  have hl : (([a, b] : List Int).length : Int) = 2 := rfl
  simp only [ints_ints.l0, hl]
  rw [if_pos (show (0 : Int) < 2 by decide), if_pos (show (0 : Int) ≤ 0 by decide), e1, e2, hr, hr', has_is hb.1 hb.2, has_is hb.1 hb.2]
  rw [if_pos (show (1 : Int) < 2 by decide), if_neg (show ¬ (2 : Int) < 2 by decide), if_pos (show (0 : Int) ≤ 1 by decide)]
  simp only [Option.bind_some, decide_eq_true_iff]
  by_cases he : er s = 0
  · rw [he]
    by_cases hi : -top s ≤ a ∧ a ≤ top s <;> by_cases hj : -top s ≤ b ∧ b ≤ top s <;> simp [hi, hj]
  · simp [he]

/-- the number of bits, as a natural number -/
def wd (s : Int) : Nat := if s = -1 then 16 else if s = 0 then 32 else if s = 1 then 60 else 0
theorem wid_wd (s : Int) : wid s = (wd s : Int) := by
  unfold wid wd; repeat' split
  all_goals rfl
theorem wd_le (s : Int) : wd s ≤ 60 := by
  unfold wd; repeat' split
  all_goals omega
theorem wd_pos {s : Int} (h : er s = 0) : 1 ≤ wd s := by
  revert h; unfold wd er; repeat' split
  all_goals omega
theorem p60 {W : Nat} (h : W ≤ 60) : 2 ^ W ≤ 1152921504606846976 := Nat.le_trans (Nat.pow_le_pow_right (by decide) h) (by decide)
theorem cast_p (W : Nat) : ((2 : Int) ^ W) = ((2 ^ W : Nat) : Int) := by rw [Int.natCast_pow]; rfl
/-- how many words there are of a size -/
def fl (s : Int) : Nat := 2 ^ wd s
theorem fl_bd (s : Int) : 1 ≤ fl s ∧ fl s ≤ 1152921504606846976 := ⟨Nat.two_pow_pos _, p60 (wd_le s)⟩
/-- a word of a size -/
def isw (s w : Int) : Prop := 0 ≤ w ∧ w < (fl s : Int)
instance (s w : Int) : Decidable (isw s w) := inferInstanceAs (Decidable (_ ∧ _))
theorem isw_nat {s w : Int} (h : isw s w) : ∃ x : Nat, w = x ∧ x < fl s := by
  obtain ⟨x, rfl⟩ := Int.eq_ofNat_of_zero_le h.1
  exact ⟨x, rfl, by have := h.2; omega⟩
theorem isw_zero (s : Int) : isw s 0 := ⟨Int.le_refl _, by have := fl_bd s; omega⟩
theorem i64_id {n : Int} (h : -9223372036854775808 ≤ n) (h' : n ≤ 9223372036854775807) : IntKind.i64.wrap n = n := by
  rw [IntKind.wrap_i64]; omega
theorem i64_nat {n : Nat} (h : n ≤ 9223372036854775807) : IntKind.i64.wrap (n : Int) = n := i64_id (by omega) (by omega)
theorem shl1 (s : Int) : shl .i64 1 (wd s : Int) = (fl s : Int) := by
  have h := wd_le s
  unfold shl
  have e : min (wd s : Int).toNat IntKind.i64.bits = wd s := by
    rw [Int.toNat_natCast]; simp [IntKind.bits]; omega
  rw [e, cast_p, Int.one_mul]
  exact i64_nat (by have := fl_bd s; unfold fl at this; omega)
theorem shr_nat (x m : Nat) (h : m ≤ 64) : shr .i64 (x : Int) (m : Int) = ((x / 2 ^ m : Nat) : Int) := by
  unfold shr
  have e : min (m : Int).toNat IntKind.i64.bits = m := by
    rw [Int.toNat_natCast]; simp [IntKind.bits]; omega
  rw [e, cast_p]; rfl
theorem hasw_is (M s w : Int) : ints_length_hasWord.f M (wid s) w = some (decide (isw s w)) := by
  unfold ints_length_hasWord.f
  rw [wid_wd]
  by_cases h : w ≥ 0
  · rw [if_pos h, if_pos (by omega), shl1 s]; congr 1; rw [decide_eq_decide]; exact ⟨fun x => ⟨h, x⟩, fun x => x.2⟩
  · rw [if_neg h]; congr 1; symm; rw [decide_eq_false_iff_not]; exact fun x => h x.1
theorem words1 (s a : Int) (k : Nat) : ints_words.f (k + 2) s [a] = some (top s, wid s, if er s = 0 then (if isw s a then 0 else 11) else er s) := by
  unfold ints_words.f; rw [of_is]; simp only [Option.bind_some]
  simp only [ints_words.l0, List.length_singleton]
  rw [if_pos (by decide), if_pos (by decide), if_pos (by decide)]
  have e1 : wrap64 (0 + 1) = 1 := w64 (by omega) (by omega)
  have hr : rd [a] 0 = a := rfl
  rw [e1, hr, hasw_is]; simp only [Option.bind_some]
  by_cases he : er s = 0
  · by_cases hi : isw s a <;> simp [he, hi]
  · simp [he]
theorem words2 (s a b : Int) (k : Nat) : ints_words.f (k + 3) s [a, b] = some (top s, wid s, if er s = 0 then (if isw s a ∧ isw s b then 0 else 11) else er s) := by
  unfold ints_words.f; rw [of_is]; simp only [Option.bind_some]
  have e1 : wrap64 (0 + 1) = 1 := w64 (by omega) (by omega)
  have e2 : wrap64 (1 + 1) = 2 := w64 (by omega) (by omega)
  have hr : rd [a, b] 0 = a := rfl
  have hr' : rd [a, b] 1 = b := rfl
  have hl : (([a, b] : List Int).length : Int) = 2 := rfl
  simp only [ints_words.l0, hl]
  rw [if_pos (show (0 : Int) < 2 by decide), if_pos (show (0 : Int) ≤ 0 by decide), e1, e2, hr, hr', hasw_is, hasw_is]
  rw [if_pos (show (1 : Int) < 2 by decide), if_neg (show ¬ (2 : Int) < 2 by decide), if_pos (show (0 : Int) ≤ 1 by decide)]
  simp only [Option.bind_some, decide_eq_true_iff]
  by_cases he : er s = 0
  · rw [he]
    by_cases hi : isw s a <;> by_cases hj : isw s b <;> simp [hi, hj]
  · simp [he]
/-- what an operation on words answers -/
def gw {α : Type} (z : α) (s : Int) (p : Prop) [Decidable p] (x : α × Int) : α × Int := if er s = 0 then (if p then x else (z, 11)) else (z, er s)
theorem i64_bits {x y : Nat} (hx : x < 2 ^ 60) (hy : y < 2 ^ 60) : Go.bits .and .i64 (x : Int) (y : Int) = ((x &&& y : Nat) : Int) ∧ Go.bits .or .i64 (x : Int) (y : Int) = ((x ||| y : Nat) : Int) :=
  bits_nat .i64 60 (by decide) (fun n h0 h1 => i64_id (by omega) (by have : (2 : Int) ^ 60 = 1152921504606846976 := by decide
                                                                     omega)) x y hx hy
theorem i64_xor {x y : Nat} (hx : x < 2 ^ 60) (hy : y < 2 ^ 60) : Go.bits .xor .i64 (x : Int) (y : Int) = ((x ^^^ y : Nat) : Int) := by
  have e : (2 : Nat) ^ 60 = 1152921504606846976 := by decide
  have h1 : x ^^^ y < 2 ^ 60 := Nat.xor_lt_two_pow hx hy
  have hx' : x % 2 ^ 64 = x := Nat.mod_eq_of_lt (by omega)
  have hy' : y % 2 ^ 64 = y := Nat.mod_eq_of_lt (by omega)
  show IntKind.i64.wrap ((BitVec.ofInt 64 (x : Int) ^^^ BitVec.ofInt 64 (y : Int)).toNat : Int) = _
  rw [BitVec.toNat_xor, BitVec.ofInt_natCast, BitVec.ofInt_natCast, BitVec.toNat_ofNat, BitVec.toNat_ofNat, hx', hy', i64_id (by omega) (by omega)]
theorem lt60 {s : Int} {x : Nat} (h : x < fl s) : x < 2 ^ 60 := Nat.lt_of_lt_of_le h (Nat.pow_le_pow_right (by decide) (wd_le s))
theorem and_is (s v w : Int) (k : Nat) : ints_And.f (k + 3) s v w = some (gw 0 s (isw s v ∧ isw s w) (((v.toNat &&& w.toNat : Nat) : Int), 0)) := by
  unfold ints_And.f gw; rw [words2]; simp only [Option.bind_some]
  by_cases he : er s = 0
  · by_cases hi : isw s v ∧ isw s w
    · simp only [if_pos he, if_pos hi, if_true]
      obtain ⟨x, rfl, hx⟩ := isw_nat hi.1
      obtain ⟨y, rfl, hy⟩ := isw_nat hi.2
      rw [(i64_bits (lt60 hx) (lt60 hy)).1]; rfl
    · simp only [if_pos he, if_neg hi]; simp
  · simp only [if_neg he]
theorem or_is (s v w : Int) (k : Nat) : ints_Or.f (k + 3) s v w = some (gw 0 s (isw s v ∧ isw s w) (((v.toNat ||| w.toNat : Nat) : Int), 0)) := by
  unfold ints_Or.f gw; rw [words2]; simp only [Option.bind_some]
  by_cases he : er s = 0
  · by_cases hi : isw s v ∧ isw s w
    · simp only [if_pos he, if_pos hi, if_true]
      obtain ⟨x, rfl, hx⟩ := isw_nat hi.1
      obtain ⟨y, rfl, hy⟩ := isw_nat hi.2
      rw [(i64_bits (lt60 hx) (lt60 hy)).2]; rfl
    · simp only [if_pos he, if_neg hi]; simp
  · simp only [if_neg he]
theorem not_nat {W x : Nat} (h : x < 2 ^ W) : x ^^^ (2 ^ W - 1) = 2 ^ W - 1 - x := by
  apply Nat.eq_of_testBit_eq
  intro i
  rw [Nat.testBit_xor, Nat.testBit_two_pow_sub_one, show 2 ^ W - 1 - x = 2 ^ W - (x + 1) by omega, Nat.testBit_two_pow_sub_succ h]
  by_cases hi : i < W
  · simp [hi]
  · have : x < 2 ^ i := Nat.lt_of_lt_of_le h (Nat.pow_le_pow_right (by decide) (by omega))
    simp [hi, Nat.testBit_lt_two_pow this]
theorem not_is (s w : Int) (k : Nat) : ints_Not.f (k + 2) s w = some (gw 0 s (isw s w) ((fl s : Int) - 1 - w, 0)) := by
  unfold ints_Not.f gw; rw [words1]; simp only [Option.bind_some]
  by_cases he : er s = 0
  · by_cases hi : isw s w
    · simp only [if_pos he, if_pos hi, if_true]
      obtain ⟨x, rfl, hx⟩ := isw_nat hi
      have hp := fl_bd s
      have hn : x ^^^ (fl s - 1) = fl s - 1 - x := not_nat hx
      rw [wid_wd, if_pos (by omega), shl1 s, w64 (by omega) (by omega), show (fl s : Int) - 1 = ((fl s - 1 : Nat) : Int) by omega, i64_xor (lt60 hx) (lt60 (s := s) (by omega)), hn]
      congr 2; omega
    · simp only [if_pos he, if_neg hi]; simp
  · simp only [if_neg he]
theorem elem_is (s i w : Int) (_hi0 : -9223372036854775808 ≤ i) (k : Nat) : ints_Elem.f (k + 2) s i w = some (gw false s (isw s w) (if 1 ≤ i ∧ i ≤ (wd s : Int) then (w.toNat / 2 ^ (wd s - i.toNat) % 2 == 1, 0) else (false, 11))) := by
  unfold ints_Elem.f gw; rw [words1]; simp only [Option.bind_some]
  have hw := wd_le s
  by_cases he : er s = 0
  · by_cases hi : isw s w
    · simp only [if_pos he, if_pos hi, if_true]
      obtain ⟨x, rfl, hx⟩ := isw_nat hi
      rw [wid_wd]
      by_cases h1 : i < 1
      · rw [if_pos h1, if_neg (by omega)]
      · by_cases h2 : i > (wd s : Int)
        · rw [if_neg h1, if_pos h2, if_neg (by omega)]
        · rw [if_neg h1, if_neg h2, if_pos (show 1 ≤ i ∧ i ≤ (wd s : Int) by omega), w64 (by omega) (by omega), if_pos (by omega)]
          rw [show (wd s : Int) - i = ((wd s - i.toNat : Nat) : Int) by omega, shr_nat _ _ (by omega), show (1 : Int) = ((1 : Nat) : Int) from rfl]
          have h3 : x / 2 ^ (wd s - i.toNat) < 2 ^ 60 := Nat.lt_of_le_of_lt (Nat.div_le_self _ _) (lt60 hx)
          rw [(i64_bits h3 (by decide)).1, Nat.and_one_is_mod]
          rw [Int.toNat_natCast]
          generalize x / 2 ^ (wd s - i.toNat) % 2 = d
          congr 2; rw [Bool.eq_iff_iff, beq_iff_eq, beq_iff_eq]; omega
    · simp only [if_pos he, if_neg hi]; simp
  · simp only [if_neg he]
theorem inw (w : Int) (p : Prop) [Decidable p] : ints_in.f (decide p) w = some (if p then (w, 0) else (0, 11)) := by
  unfold ints_in.f; by_cases h : p <;> simp [h]

/-- a shift, as both texts answer -/
def shS (s w n : Int) : Int × Int :=
  if n ≥ (wd s : Int) ∨ n ≤ -(wd s : Int) then (0, 0) else if n < 0 then (((w.toNat / 2 ^ (-n).toNat : Nat) : Int), 0) else (((w.toNat * 2 ^ n.toNat % fl s : Nat) : Int), 0)
theorem shift_is (s w n : Int) (h0 : -9223372036854775808 ≤ n) (k : Nat) : ints_Shift.f (k + 2) s w n = some (gw 0 s (isw s w) (shS s w n)) := by
  unfold ints_Shift.f gw; rw [words1]; simp only [Option.bind_some]
  have hw := wd_le s
  by_cases he : er s = 0
  · by_cases hi : isw s w
    · simp only [if_pos he, if_pos hi, if_true]
      obtain ⟨x, rfl, hx⟩ := isw_nat hi
      rw [wid_wd]
      unfold shS
      by_cases h1 : n ≥ (wd s : Int)
      · rw [if_pos h1, if_pos (Or.inl h1)]; simp only [ints_Shift.j0]; rfl
      · rw [if_neg h1, w64 (by omega) (by omega)]; simp only [ints_Shift.j0]
        by_cases h2 : n ≤ -(wd s : Int)
        · rw [if_pos (decide_eq_true h2), if_pos (Or.inr h2)]
        · have h12 : ¬ (n ≥ (wd s : Int) ∨ n ≤ -(wd s : Int)) := fun h => h.elim h1 h2
          rw [if_neg (show ¬ decide (n ≤ -(wd s : Int)) = true by rw [decide_eq_true_iff]; exact h2), if_neg h12]
          by_cases h3 : n < 0
          · rw [if_pos h3, if_pos h3, w64 (by omega) (by omega), if_pos (by omega)]
            have hs := shr_nat x (-n).toNat (by omega)
            rw [show (((-n).toNat : Nat) : Int) = -n by omega] at hs
            rw [hs]; rfl
          · rw [if_neg h3, if_neg h3, if_pos (show 0 ≤ n by omega), if_pos (show 0 ≤ (wd s : Int) by omega)]
            have hp := fl_bd s
            have e60 : (2 : Nat) ^ 60 = 1152921504606846976 := by decide
            have hx60 := lt60 hx
            have eu : IntKind.u64.wrap (x : Int) = (x : Int) := by rw [IntKind.wrap_u64]; omega
            have e1 : shl .u64 (x : Int) n = ((x * 2 ^ n.toNat % 18446744073709551616 : Nat) : Int) := by
              unfold shl
              have e : min n.toNat IntKind.u64.bits = n.toNat := by simp [IntKind.bits]; omega
              rw [e, cast_p, IntKind.wrap_u64]; rfl
            have e2 : IntKind.u64.wrap (shl .u64 1 (wd s : Int) - 1) = ((fl s - 1 : Nat) : Int) := by
              unfold shl
              have e : min (wd s : Int).toNat IntKind.u64.bits = wd s := by simp [IntKind.bits]; omega
              rw [e, cast_p, IntKind.wrap_u64, IntKind.wrap_u64]
              show (1 * (fl s : Int) % 18446744073709551616 - 1) % 18446744073709551616 = _
              omega
            have hm : x * 2 ^ n.toNat % 18446744073709551616 &&& (fl s - 1) = x * 2 ^ n.toNat % 18446744073709551616 % fl s := Nat.and_two_pow_sub_one_eq_mod _ _
            have hd : (18446744073709551616 : Nat) = fl s * 2 ^ (64 - wd s) := by
              unfold fl; rw [← Nat.pow_add, show wd s + (64 - wd s) = 64 by omega]
            rw [eu, e1, e2, bits_and_u64_nat _ _ (Nat.mod_lt _ (by decide)) (by omega), hm, hd, Nat.mod_mul_right_mod]
            have hlt := Nat.mod_lt (x * 2 ^ n.toNat) (show 0 < fl s by omega)
            rw [Int.toNat_natCast]
            generalize x * 2 ^ n.toNat % fl s = r at *
            rw [w64 (by omega) (by omega)]
    · simp only [if_pos he, if_neg hi]; simp
  · simp only [if_neg he]

theorem rwidth_is (s : Int) : environref01_Width.f s = some ((wd s : Int), er s) := by
  unfold environref01_Width.f wd er
  repeat' split
  all_goals first | rfl | omega
theorem shr_wd {s : Int} {x : Nat} : (shr .i64 (x : Int) (wd s : Int) == 0) = decide (x < fl s) := by
  rw [shr_nat _ _ (by have := wd_le s; omega), Bool.eq_iff_iff, beq_iff_eq, decide_eq_true_iff]
  have hp := Nat.two_pow_pos (wd s)
  unfold fl
  constructor
  · intro h
    have h' : x / 2 ^ wd s = 0 := by omega
    rcases Nat.div_eq_zero_iff.1 h' with h'' | h''
    · omega
    · exact h''
  · intro h; rw [Nat.div_eq_of_lt h]; rfl
theorem risw_is (s w : Int) : environref01_IsWord.f s w = some (decide (er s = 0 ∧ isw s w)) := by
  unfold environref01_IsWord.f; rw [rwidth_is]; simp only [Option.bind_some]
  by_cases he : er s = 0
  · rw [if_pos he]
    by_cases h : w ≥ 0
    · rw [if_pos h, if_pos (by omega)]
      obtain ⟨x, rfl⟩ := Int.eq_ofNat_of_zero_le h
      rw [shr_wd]; congr 1; rw [decide_eq_decide]; unfold isw; omega
    · rw [if_neg h]; congr 1; symm; rw [decide_eq_false_iff_not]; exact fun x => h x.2.1
  · rw [if_neg he]; congr 1; symm; rw [decide_eq_false_iff_not]; exact fun x => he x.1
theorem rwords_is (s v w : Int) : environref01_words.f s v w = some (if er s = 0 then (if isw s v ∧ isw s w then 0 else 11) else er s) := by
  unfold environref01_words.f; rw [rwidth_is]; simp only [Option.bind_some]; rw [risw_is, risw_is]; simp only [Option.bind_some]
  by_cases he : er s = 0
  · by_cases hi : isw s v <;> by_cases hj : isw s w <;> simp [he, hi, hj]
  · simp [he]
theorem bitAt_is (W x : Nat) (i : Int) (hW : W ≤ 60) (h0 : -9223372036854775808 ≤ i) : environref01_bitAt.f (W : Int) i (x : Int) = some (if 1 ≤ i ∧ i ≤ (W : Int) then ((x / 2 ^ (W - i.toNat) % 2 : Nat) : Int) else 0) := by
  unfold environref01_bitAt.f
  by_cases h1 : i < 1
  · rw [if_pos h1, if_neg (by omega)]
  · by_cases h2 : i > (W : Int)
    · rw [if_neg h1, if_pos h2, if_neg (by omega)]
    · rw [if_neg h1, if_neg h2, if_pos (show 1 ≤ i ∧ i ≤ (W : Int) by omega), w64 (by omega) (by omega), if_pos (by omega)]
      rw [show (W : Int) - i = ((W - i.toNat : Nat) : Int) by omega, shr_nat _ _ (by omega), Int.tmod_eq_emod_of_nonneg (Int.natCast_nonneg _)]
      rfl
/-- one more binary digit -/
theorem digit (x m : Nat) : x / 2 ^ m = 2 * (x / 2 ^ (m + 1)) + x / 2 ^ m % 2 := by
  rw [Nat.pow_succ, ← Nat.div_div_eq_div_mul]; omega
theorem tb (x m : Nat) : x / 2 ^ m % 2 = (x.testBit m).toNat := Nat.toNat_testBit x m ▸ rfl
theorem part_bd {x W m : Nat} (hx : x < 2 ^ W) (hW : W ≤ 60) : x / 2 ^ m < 1152921504606846976 := by
  have := p60 hW
  exact Nat.lt_of_le_of_lt (Nat.div_le_self _ _) (by omega)
theorem rand_loop (W v w : Nat) (hW : W ≤ 60) (hv : v < 2 ^ W) : ∀ (n k i : Nat), W - i = n → i ≤ W → n < k → environref01_And.l0 k (v : Int) (w : Int) (W : Int) (((v &&& w) / 2 ^ (W - i) : Nat) : Int) ((i : Int) + 1) = some (((v &&& w : Nat) : Int), 0) := by
  intro n
  induction n with
  | zero =>
    intro k i hn hi hk
    obtain ⟨k, rfl⟩ : ∃ m, k = m + 1 := ⟨k - 1, by omega⟩
    simp only [environref01_And.l0]; rw [if_neg (by omega), show W - i = 0 by omega, Nat.pow_zero, Nat.div_one]
  | succ n ih =>
    intro k i hn hi hk
    obtain ⟨k, rfl⟩ : ∃ m, k = m + 1 := ⟨k - 1, by omega⟩
    simp only [environref01_And.l0]; rw [if_pos (by omega), bitAt_is W v _ hW (by omega), bitAt_is W w _ hW (by omega)]; simp only [Option.bind_some]
    rw [if_pos (by omega), if_pos (by omega), show W - ((i : Int) + 1).toNat = W - (i + 1) by omega]
    have hd := digit (v &&& w) (W - (i + 1))
    rw [show W - (i + 1) + 1 = W - i by omega] at hd
    have hb : v / 2 ^ (W - (i + 1)) % 2 * (w / 2 ^ (W - (i + 1)) % 2) = (v &&& w) / 2 ^ (W - (i + 1)) % 2 := by
      rw [tb, tb, tb, Nat.testBit_and]; cases v.testBit (W - (i + 1)) <;> cases w.testBit (W - (i + 1)) <;> rfl
    have hbd : (v &&& w) / 2 ^ (W - i) < 1152921504606846976 := part_bd (Nat.lt_of_le_of_lt Nat.and_le_left hv) hW
    rw [← Int.natCast_mul, hb]
    have hb2 : (v &&& w) / 2 ^ (W - (i + 1)) % 2 < 2 := Nat.mod_lt _ (by decide)
    rw [w64 (n := 2 * _) (by omega) (by omega), w64 (n := (((v &&& w) / 2 ^ (W - (i + 1)) % 2 : Nat) : Int)) (by omega) (by omega), w64 (n := _ + (((v &&& w) / 2 ^ (W - (i + 1)) % 2 : Nat) : Int)) (by omega) (by omega), w64 (by omega) (by omega)]
    have := ih k (i + 1) (by omega) (by omega) (by omega)
    rw [hd] at this
    exact this
theorem ror_loop (W v w : Nat) (hW : W ≤ 60) (hv : v < 2 ^ W) (hw : w < 2 ^ W) : ∀ (n k i : Nat), W - i = n → i ≤ W → n < k → environref01_Or.l0 k (v : Int) (w : Int) (W : Int) (((v ||| w) / 2 ^ (W - i) : Nat) : Int) ((i : Int) + 1) = some (((v ||| w : Nat) : Int), 0) := by
  intro n
  induction n with
  | zero =>
    intro k i hn hi hk
    obtain ⟨k, rfl⟩ : ∃ m, k = m + 1 := ⟨k - 1, by omega⟩
    simp only [environref01_Or.l0]; rw [if_neg (by omega), show W - i = 0 by omega, Nat.pow_zero, Nat.div_one]
  | succ n ih =>
    intro k i hn hi hk
    obtain ⟨k, rfl⟩ : ∃ m, k = m + 1 := ⟨k - 1, by omega⟩
    simp only [environref01_Or.l0]; rw [if_pos (by omega), bitAt_is W v _ hW (by omega), bitAt_is W w _ hW (by omega)]; simp only [Option.bind_some]
    rw [if_pos (show 1 ≤ (i : Int) + 1 ∧ (i : Int) + 1 ≤ (W : Int) by omega), if_pos (show 1 ≤ (i : Int) + 1 ∧ (i : Int) + 1 ≤ (W : Int) by omega), show W - ((i : Int) + 1).toNat = W - (i + 1) by omega]
    have hd := digit (v ||| w) (W - (i + 1))
    rw [show W - (i + 1) + 1 = W - i by omega] at hd
    have hbd : (v ||| w) / 2 ^ (W - i) < 1152921504606846976 := part_bd (Nat.or_lt_two_pow hv hw) hW
    have h1 : (v ||| w) / 2 ^ (W - (i + 1)) % 2 = if v / 2 ^ (W - (i + 1)) % 2 = 1 then 1 else if w / 2 ^ (W - (i + 1)) % 2 = 1 then 1 else 0 := by
      rw [tb, tb, tb, Nat.testBit_or]; cases v.testBit (W - (i + 1)) <;> cases w.testBit (W - (i + 1)) <;> rfl
    have := ih k (i + 1) (by omega) (by omega) (by omega)
    rw [w64 (n := _ * 2) (by omega) (by omega), w64 (n := _ * 2 + 1) (by omega) (by omega), w64 (n := (i : Int) + 1 + 1) (by omega) (by omega)]
    by_cases hv1 : v / 2 ^ (W - (i + 1)) % 2 = 1
    · rw [if_pos hv1] at h1
      rw [if_pos (by omega)]
      rw [show (((v ||| w) / 2 ^ (W - i) : Nat) : Int) * 2 + 1 = (((v ||| w) / 2 ^ (W - (i + 1)) : Nat) : Int) by omega]; exact this
    · rw [if_neg (by omega)]
      rw [if_neg hv1] at h1
      by_cases hw1 : w / 2 ^ (W - (i + 1)) % 2 = 1
      · rw [if_pos hw1] at h1
        rw [if_pos (by omega)]
        rw [show (((v ||| w) / 2 ^ (W - i) : Nat) : Int) * 2 + 1 = (((v ||| w) / 2 ^ (W - (i + 1)) : Nat) : Int) by omega]; exact this
      · rw [if_neg hw1] at h1
        rw [if_neg (by omega)]
        rw [show (((v ||| w) / 2 ^ (W - i) : Nat) : Int) * 2 = (((v ||| w) / 2 ^ (W - (i + 1)) : Nat) : Int) by omega]; exact this
/-- the shift's loop leads to the number x whose bits are those of w, shifted -/
theorem rsh_loop (W w x : Nat) (n : Int) (hW : W ≤ 60) (hx : x < 2 ^ W) (hn1 : -60 ≤ n) (hn2 : n ≤ 60)
    (hb : ∀ i : Nat, i < W → (((x / 2 ^ (W - (i + 1)) % 2 : Nat) : Int)) = if 1 ≤ (i : Int) + 1 + n ∧ (i : Int) + 1 + n ≤ (W : Int) then ((w / 2 ^ (W - ((i : Int) + 1 + n).toNat) % 2 : Nat) : Int) else 0) : ∀ (m k i : Nat), W - i = m → i ≤ W → m < k → environref01_Shift.l0 k (w : Int) n (W : Int) ((x / 2 ^ (W - i) : Nat) : Int) ((i : Int) + 1) = some ((x : Int), 0) := by
  intro m
  induction m with
  | zero =>
    intro k i hn hi hk
    obtain ⟨k, rfl⟩ : ∃ m, k = m + 1 := ⟨k - 1, by omega⟩
    simp only [environref01_Shift.l0]; rw [if_neg (by omega), show W - i = 0 by omega, Nat.pow_zero, Nat.div_one]
  | succ m ih =>
    intro k i hn hi hk
    obtain ⟨k, rfl⟩ : ∃ m, k = m + 1 := ⟨k - 1, by omega⟩
    simp only [environref01_Shift.l0]; rw [if_pos (by omega), w64 (n := (i : Int) + 1 + n) (by omega) (by omega), bitAt_is W w _ hW (by omega), ← hb i (by omega)]; simp only [Option.bind_some]
    have hd := digit x (W - (i + 1))
    rw [show W - (i + 1) + 1 = W - i by omega] at hd
    have hbd : x / 2 ^ (W - i) < 1152921504606846976 := part_bd hx hW
    have hb2 : x / 2 ^ (W - (i + 1)) % 2 < 2 := Nat.mod_lt _ (by decide)
    rw [w64 (n := 2 * _) (by omega) (by omega), w64 (n := 2 * _ + _) (by omega) (by omega), w64 (by omega) (by omega)]
    have := ih k (i + 1) (by omega) (by omega) (by omega)
    rw [hd] at this
    exact this
theorem rand_is (s v w : Int) (k : Nat) (hk : 62 ≤ k) : environref01_And.f k s v w = some (gw 0 s (isw s v ∧ isw s w) (((v.toNat &&& w.toNat : Nat) : Int), 0)) := by
  unfold environref01_And.f gw; rw [rwords_is]; simp only [Option.bind_some]
  by_cases he : er s = 0
  · by_cases hi : isw s v ∧ isw s w
    · simp only [if_pos he, if_pos hi, if_true]
      obtain ⟨x, rfl, hx⟩ := isw_nat hi.1
      obtain ⟨y, rfl, hy⟩ := isw_nat hi.2
      rw [rwidth_is]; simp only [Option.bind_some, Int.toNat_natCast]
      have h := rand_loop (wd s) x y (wd_le s) hx (wd s) k 0 (by omega) (by omega) (by have := wd_le s; omega)
      rw [Nat.sub_zero, Nat.div_eq_of_lt (Nat.and_lt_two_pow _ hy), show ((0 : Nat) : Int) = 0 from rfl, Int.zero_add] at h
      exact h
    · simp only [if_pos he, if_neg hi]; simp
  · simp only [if_neg he]
theorem ror_is (s v w : Int) (k : Nat) (hk : 62 ≤ k) : environref01_Or.f k s v w = some (gw 0 s (isw s v ∧ isw s w) (((v.toNat ||| w.toNat : Nat) : Int), 0)) := by
  unfold environref01_Or.f gw; rw [rwords_is]; simp only [Option.bind_some]
  by_cases he : er s = 0
  · by_cases hi : isw s v ∧ isw s w
    · simp only [if_pos he, if_pos hi, if_true]
      obtain ⟨x, rfl, hx⟩ := isw_nat hi.1
      obtain ⟨y, rfl, hy⟩ := isw_nat hi.2
      rw [rwidth_is]; simp only [Option.bind_some, Int.toNat_natCast]
      have h := ror_loop (wd s) x y (wd_le s) hx hy (wd s) k 0 (by omega) (by omega) (by have := wd_le s; omega)
      rw [Nat.sub_zero, Nat.div_eq_of_lt (Nat.or_lt_two_pow hx hy), show ((0 : Nat) : Int) = 0 from rfl, Int.zero_add] at h
      exact h
    · simp only [if_pos he, if_neg hi]; simp
  · simp only [if_neg he]
theorem rnot_is (s w : Int) : environref01_Not.f s w = some (gw 0 s (isw s w) ((fl s : Int) - 1 - w, 0)) := by
  unfold environref01_Not.f gw; rw [rwords_is]; simp only [Option.bind_some]
  by_cases he : er s = 0
  · by_cases hi : isw s w
    · simp only [if_pos he, isw_zero, and_true, if_pos hi, if_true]
      have hp := fl_bd s
      have hi2 := hi.1; have hi3 := hi.2
      rw [rwidth_is]; simp only [Option.bind_some]; rw [if_pos (by omega), shl1 s, w64 (n := (fl s : Int) - 1) (by omega) (by omega), w64 (by omega) (by omega)]
    · simp only [if_pos he, hi, isw_zero]; simp
  · simp only [if_neg he]
theorem relem_is (s i w : Int) (hi0 : -9223372036854775808 ≤ i) : environref01_Elem.f s i w = some (gw false s (isw s w) (if 1 ≤ i ∧ i ≤ (wd s : Int) then (w.toNat / 2 ^ (wd s - i.toNat) % 2 == 1, 0) else (false, 11))) := by
  unfold environref01_Elem.f gw; rw [rwords_is]; simp only [Option.bind_some]
  by_cases he : er s = 0
  · by_cases hi : isw s w
    · simp only [if_pos he, isw_zero, and_true, if_pos hi, if_true]
      obtain ⟨x, rfl, hx⟩ := isw_nat hi
      rw [rwidth_is]; simp only [Option.bind_some]
      by_cases h1 : i < 1
      · rw [if_pos h1, if_neg (by omega)]
      · by_cases h2 : i > (wd s : Int)
        · rw [if_neg h1, if_pos h2, if_neg (by omega)]
        · rw [if_neg h1, if_neg h2, bitAt_is _ _ _ (wd_le s) hi0]; simp only [Option.bind_some]
          rw [if_pos (show 1 ≤ i ∧ i ≤ (wd s : Int) by omega), if_pos (show 1 ≤ i ∧ i ≤ (wd s : Int) by omega)]
          rw [Int.toNat_natCast]
          generalize x / 2 ^ (wd s - i.toNat) % 2 = d
          congr 2; rw [Bool.eq_iff_iff, beq_iff_eq, beq_iff_eq]; omega
    · simp only [if_pos he, hi, isw_zero]; simp
  · simp only [if_neg he]
theorem rshift_is (s w n : Int) (h0 : -9223372036854775808 ≤ n) (k : Nat) (hk : 62 ≤ k) : environref01_Shift.f (k + 1) s w n = some (gw 0 s (isw s w) (shS s w n)) := by
  unfold environref01_Shift.f gw; rw [rwords_is]; simp only [Option.bind_some]
  have hw := wd_le s
  by_cases he : er s = 0
  · by_cases hi : isw s w
    · simp only [if_pos he, isw_zero, and_true, if_pos hi, if_true]
      obtain ⟨x, rfl, hx⟩ := isw_nat hi
      rw [rwidth_is]; simp only [Option.bind_some]
      unfold shS
      by_cases h1 : n ≥ (wd s : Int)
      · rw [if_pos h1, if_pos (Or.inl h1)]; simp only [environref01_Shift.j0]; rfl
      · rw [if_neg h1, w64 (by omega) (by omega)]; simp only [environref01_Shift.j0]
        by_cases h2 : n ≤ -(wd s : Int)
        · rw [if_pos (decide_eq_true h2), if_pos (Or.inr h2)]
        · have h12 : ¬ (n ≥ (wd s : Int) ∨ n ≤ -(wd s : Int)) := fun h => h.elim h1 h2
          rw [if_neg (show ¬ decide (n ≤ -(wd s : Int)) = true by rw [decide_eq_true_iff]; exact h2), if_neg h12]
          have hwp : 1 ≤ wd s := by omega
          by_cases h3 : n < 0
          · rw [if_pos h3, Int.toNat_natCast]
            have hy : x / 2 ^ (-n).toNat < 2 ^ wd s := Nat.lt_of_le_of_lt (Nat.div_le_self _ _) hx
            have h := rsh_loop (wd s) x (x / 2 ^ (-n).toNat) n hw hy (by omega) (by omega) ?_ (wd s) k 0 (by omega) (by omega) (by omega)
            · rw [Nat.sub_zero, Nat.div_eq_of_lt hy, show ((0 : Nat) : Int) = 0 from rfl, Int.zero_add] at h; exact h
            · intro i hiW
              rw [tb, Nat.testBit_div_two_pow]
              by_cases hr : 1 ≤ (i : Int) + 1 + n ∧ (i : Int) + 1 + n ≤ (wd s : Int)
              · rw [if_pos hr, tb, show wd s - ((i : Int) + 1 + n).toNat = wd s - (i + 1) + (-n).toNat by omega]
              · rw [if_neg hr, Nat.testBit_lt_two_pow (Nat.lt_of_lt_of_le hx (Nat.pow_le_pow_right (by decide) (by omega)))]; rfl
          · rw [if_neg h3, Int.toNat_natCast]
            have hy : x * 2 ^ n.toNat % 2 ^ wd s < 2 ^ wd s := Nat.mod_lt _ (Nat.two_pow_pos _)
            have h := rsh_loop (wd s) x (x * 2 ^ n.toNat % 2 ^ wd s) n hw hy (by omega) (by omega) ?_ (wd s) k 0 (by omega) (by omega) (by omega)
            · rw [Nat.sub_zero, Nat.div_eq_of_lt hy, show ((0 : Nat) : Int) = 0 from rfl, Int.zero_add] at h; exact h
            · intro i hiW
              rw [tb, Nat.testBit_mod_two_pow, Nat.testBit_mul_two_pow]
              by_cases hr : 1 ≤ (i : Int) + 1 + n ∧ (i : Int) + 1 + n ≤ (wd s : Int)
              · rw [if_pos hr, tb, show wd s - (i + 1) - n.toNat = wd s - ((i : Int) + 1 + n).toNat by omega]
                rw [decide_eq_true (show wd s - (i + 1) < wd s by omega), decide_eq_true (show n.toNat ≤ wd s - (i + 1) by omega), Bool.true_and, Bool.true_and]
              · rw [if_neg hr, decide_eq_false (show ¬ n.toNat ≤ wd s - (i + 1) by omega), Bool.false_and, Bool.and_false]; rfl
    · simp only [if_pos he, hi, isw_zero]; simp
  · simp only [if_neg he]

theorem rmax_is (s : Int) : environref01_Max.f s = some (top s, er s) := by
  unfold environref01_Max.f top er
  repeat' split
  all_goals first | rfl | omega
theorem ris_is (s a : Int) : environref01_Is.f s a = some (decide (er s = 0 ∧ (-top s ≤ a ∧ a ≤ top s))) := by
  have hb := top_bd s
  unfold environref01_Is.f; rw [rmax_is]; simp only [Option.bind_some]
  by_cases he : er s = 0
  · rw [if_pos he, w64 (by omega) (by omega)]
    by_cases h : a ≥ -top s
    · rw [if_pos h]; congr 1; rw [decide_eq_decide]; exact ⟨fun x => ⟨he, h, x⟩, fun x => x.2.2⟩
    · rw [if_neg h]; congr 1; symm; rw [decide_eq_false_iff_not]; exact fun x => h x.2.1
  · rw [if_neg he]; congr 1; symm; rw [decide_eq_false_iff_not]; exact fun x => he x.1
theorem right_is (s a b : Int) : environref01_right.f s a b = some (if er s = 0 then (if (-top s ≤ a ∧ a ≤ top s) ∧ (-top s ≤ b ∧ b ≤ top s) then 0 else 11) else er s) := by
  unfold environref01_right.f; rw [rmax_is]; simp only [Option.bind_some]; rw [ris_is, ris_is]; simp only [Option.bind_some]
  by_cases he : er s = 0
  · by_cases hi : -top s ≤ a ∧ a ≤ top s <;> by_cases hj : -top s ≤ b ∧ b ≤ top s <;> simp [he, hi, hj]
  · simp [he]
theorem zero_in (s : Int) : -top s ≤ 0 ∧ 0 ≤ top s := by have := top_bd s; omega
theorem er_next (s : Int) : er s = 0 → s ≤ 1 ∧ -1 ≤ s := by
  unfold er; repeat' split
  all_goals omega
theorem er_01 (s : Int) : er s = 0 ∨ er s = 1 := by
  unfold er; repeat' split
  all_goals omega
theorem next_up (s : Int) : ∃ y, ints_next.f s 1 = some (y, if er s = 0 then (if s = 1 then 1 else 0) else er s) := by
  unfold ints_next.f; rw [of_is]; simp only [Option.bind_some]
  by_cases he : er s = 0
  · have := er_next s he
    rw [if_pos he, of_is, w64 (by omega) (by omega)]; simp only [Option.bind_some]
    refine ⟨s + 1, ?_⟩
    congr 2
    rw [if_pos he]; unfold er; repeat' split
    all_goals omega
  · exact ⟨0, by rw [if_neg he, if_neg he]⟩
theorem next_down (s : Int) : ∃ y, (er s = 0 → y = s - 1) ∧ ints_next.f s (-1) = some (y, if er s = 0 then (if s = -1 then 1 else 0) else er s) := by
  unfold ints_next.f; rw [of_is]; simp only [Option.bind_some]
  by_cases he : er s = 0
  · have := er_next s he
    rw [if_pos he, of_is, w64 (by omega) (by omega)]; simp only [Option.bind_some]
    refine ⟨s + -1, fun _ => by omega, ?_⟩
    congr 2
    rw [if_pos he]; unfold er; repeat' split
    all_goals omega
  · exact ⟨0, fun h => absurd h he, by rw [if_neg he, if_neg he]⟩
theorem bin_is (s a : Int) (k : Nat) : ints_Bin.f (k + 2) s a = some (gw 0 s (-top s ≤ a ∧ a ≤ top s) (if isw s a then (a, 0) else (0, 11))) := by
  unfold ints_Bin.f gw; rw [ints1]; simp only [Option.bind_some]
  by_cases he : er s = 0
  · by_cases hi : -top s ≤ a ∧ a ≤ top s
    · simp only [if_pos he, if_pos hi, if_true]; rw [hasw_is]; simp only [Option.bind_some]; rw [inw]; rfl
    · simp only [if_pos he, if_neg hi]; simp
  · simp only [if_neg he]
theorem rbin_is (s a : Int) : environref01_Bin.f s a = some (gw 0 s (-top s ≤ a ∧ a ≤ top s) (if isw s a then (a, 0) else (0, 11))) := by
  unfold environref01_Bin.f gw; rw [right_is]; simp only [Option.bind_some]
  by_cases he : er s = 0
  · by_cases hi : -top s ≤ a ∧ a ≤ top s
    · simp only [if_pos he, zero_in, and_true, if_pos hi, if_true]; rw [risw_is]; simp only [Option.bind_some]
      by_cases hw : isw s a <;> simp [hw, he]
    · simp only [if_pos he, hi, zero_in]; simp
  · simp only [if_neg he]
theorem absw_is (s w : Int) (k : Nat) : ints_AbsWord.f (k + 2) s w = some (gw 0 s (isw s w) (if -top s ≤ w ∧ w ≤ top s then (w, 0) else (0, 11))) := by
  have hb := top_bd s
  unfold ints_AbsWord.f gw; rw [words1]; simp only [Option.bind_some]
  by_cases he : er s = 0
  · by_cases hi : isw s w
    · simp only [if_pos he, if_pos hi, if_true]; rw [has_is hb.1 hb.2]; simp only [Option.bind_some]; rw [inw]; rfl
    · simp only [if_pos he, if_neg hi]; simp
  · simp only [if_neg he]
theorem rabsw_is (s w : Int) : environref01_AbsWord.f s w = some (gw 0 s (isw s w) (if -top s ≤ w ∧ w ≤ top s then (w, 0) else (0, 11))) := by
  unfold environref01_AbsWord.f gw; rw [rwords_is]; simp only [Option.bind_some]
  by_cases he : er s = 0
  · by_cases hi : isw s w
    · simp only [if_pos he, isw_zero, and_true, if_pos hi, if_true]
      unfold environref01_within.f; rw [ris_is]; simp only [Option.bind_some]
      by_cases hw : -top s ≤ w ∧ w ≤ top s <;> simp [hw, he]
    · simp only [if_pos he, hi, isw_zero]; simp
  · simp only [if_neg he]
def lengW (s w : Int) : Int × Int := if er s = 0 then (if s = 1 then (0, 1) else if isw s w then (w, 0) else (0, 11)) else (0, er s)
theorem lengw_is (s w : Int) (k : Nat) : ints_LengWord.f (k + 2) s w = some (lengW s w) := by
  obtain ⟨y, hy⟩ := next_up s
  unfold ints_LengWord.f lengW; rw [hy]; simp only [Option.bind_some]
  by_cases he : er s = 0
  · by_cases h1 : s = 1
    · simp only [if_pos he, if_pos h1]; simp
    · simp only [if_pos he, if_neg h1, if_true]; rw [words1]; simp only [Option.bind_some, if_pos he]
      by_cases hi : isw s w <;> simp [hi]
  · simp only [if_neg he]
theorem rlengw_is (s w : Int) : environref01_LengWord.f s w = some (lengW s w) := by
  unfold environref01_LengWord.f lengW; rw [rwords_is]; simp only [Option.bind_some]
  by_cases h1 : s = 1
  · subst h1; simp [er]
  · rw [if_neg h1]
    by_cases he : er s = 0
    · by_cases hi : isw s w
      · simp only [if_pos he, isw_zero, and_true, if_pos hi, if_true, if_neg h1]
      · simp only [if_pos he, hi, if_neg h1]; simp
    · simp only [if_neg he]
def shortW (s w : Int) : Int × Int := if er s = 0 then (if s = -1 then (0, 1) else if isw s w then (if isw (s - 1) w then (w, 0) else (0, 11)) else (0, 11)) else (0, er s)
theorem isword_is (s w : Int) (k : Nat) : ints_IsWord.f (k + 2) s w = some (decide (er s = 0 ∧ isw s w)) := by
  unfold ints_IsWord.f; rw [words1]; simp only [Option.bind_some]; congr 1
  by_cases he : er s = 0
  · by_cases hi : isw s w <;> simp [he, hi]
  · simp [he]
theorem er_pred {s : Int} (h : er s = 0) (h1 : ¬ s = -1) : er (s - 1) = 0 := by
  have := er_next s h
  unfold er; repeat' split
  all_goals omega
theorem shortw_is (s w : Int) (k : Nat) : ints_ShortenWord.f (k + 2) s w = some (shortW s w) := by
  obtain ⟨y, hy0, hy⟩ := next_down s
  unfold ints_ShortenWord.f shortW; rw [hy]; simp only [Option.bind_some]
  by_cases he : er s = 0
  · by_cases h1 : s = -1
    · simp only [if_pos he, if_pos h1]; simp
    · simp only [if_pos he, if_neg h1, if_true]; rw [words1]; simp only [Option.bind_some, if_pos he]
      rw [hy0 he, isword_is]; simp only [Option.bind_some]
      by_cases hi : isw s w
      · simp only [if_pos hi, if_true]
        rw [inw]; simp only [Option.bind_some]
        by_cases hj : isw (s - 1) w <;> simp [hj, er_pred he h1]
      · simp [hi]
  · simp only [if_neg he]
theorem rshortw_is (s w : Int) (h0 : -9223372036854775808 ≤ s) (h00 : s ≤ 9223372036854775807) : environref01_ShortenWord.f s w = some (shortW s w) := by
  unfold environref01_ShortenWord.f shortW; rw [rwords_is]; simp only [Option.bind_some]
  by_cases h1 : s = -1
  · subst h1; simp [er]
  · rw [if_neg h1]
    by_cases he : er s = 0
    · have := er_next s he
      rw [w64 (by omega) (by omega), risw_is]; simp only [Option.bind_some]
      by_cases hi : isw s w
      · simp only [if_pos he, isw_zero, and_true, if_pos hi, if_true, if_neg h1]
        by_cases hj : isw (s - 1) w <;> simp [hj, er_pred he h1]
      · simp only [if_pos he, hi, if_neg h1]; simp
    · simp only [if_neg he]

end Go.Proofs.Ytgifknjcdkhmmaa.WordsFacts
