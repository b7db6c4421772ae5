import Derived.Test.YtgifknjcdkhmmaaPIntsBitsx2
import Derived.Laws.MathBits
import Derived.Laws.Bits64b
namespace Go.Proofs.Ytgifknjcdkhmmaa.BitsFacts
open Go.RowKit Go.Proofs.Ytgifknjcdkhmmaa.PIntsBits Go.Proofs.YtgifknjcdkhmmaaW.PrintWords Go.Proofs.YtgifknjcdkhmmaaW.PrintLast Go.Proofs.YtgifknjcdkhmmaaW.PrintMore
/-! the sizes: what is there of a size, and what the guards tell -/
def top (s : Int) : Int := if s = -1 then 32767 else if s = 0 then 2147483647 else if s = 1 then 999999999999999999 else 0
def wid (s : Int) : Int := if s = -1 then 16 else if s = 0 then 32 else if s = 1 then 60 else 0
def er (s : Int) : Int := if s = -1 then 0 else if s = 0 then 0 else if s = 1 then 0 else 1
theorem top_bd (s : Int) : 0 ≤ top s ∧ top s ≤ 999999999999999999 := by
  unfold top; repeat' split
  all_goals omega
theorem of_is (s : Int) : ints_of.f s = some (top s, wid s, er s) := by
  unfold ints_of.f top wid er
  repeat' split
  all_goals first | rfl | omega
theorem w64 {n : Int} (h : -9223372036854775808 ≤ n) (h' : n ≤ 9223372036854775807) : wrap64 n = n := by
  unfold wrap64; omega
theorem has_is {M W n : Int} (h0 : 0 ≤ M) (h1 : M ≤ 999999999999999999) : ints_length_has.f M W n = some (decide (-M ≤ n ∧ n ≤ M)) := by
  unfold ints_length_has.f
  rw [w64 (by omega) (by omega)]
  by_cases h : -M ≤ n
  · rw [if_pos h]; congr 1; rw [decide_eq_decide]; exact ⟨fun x => ⟨h, x⟩, fun x => x.2⟩
  · rw [if_neg h]; congr 1; symm; rw [decide_eq_false_iff_not]; exact fun x => h x.1
/-- the error of a list of integers -/
def erI (s : Int) : List Int → Int
  | [] => er s
  | a :: l => if er s ≠ 0 then er s else if -top s ≤ a ∧ a ≤ top s then erI s l else 11
theorem ints1 (s a : Int) (k : Nat) : ints_ints.f (k + 2) s [a] = some (top s, wid s, if er s = 0 then (if -top s ≤ a ∧ a ≤ top s then 0 else 11) else er s) := by
  have hb := top_bd s
  unfold ints_ints.f; rw [of_is]; simp only [Option.bind_some]
  simp only [ints_ints.l0, List.length_singleton]
  rw [if_pos (by decide), if_pos (by decide), if_pos (by decide)]
  have e1 : wrap64 (0 + 1) = 1 := w64 (by omega) (by omega)
  have hr : rd [a] 0 = a := rfl
  rw [e1, hr, has_is hb.1 hb.2]; simp only [Option.bind_some]
  by_cases he : er s = 0
  · by_cases hi : -top s ≤ a ∧ a ≤ top s <;> simp [he, hi]
  · simp [he]
theorem ints2 (s a b : Int) (k : Nat) : ints_ints.f (k + 3) s [a, b] = some (top s, wid s, if er s = 0 then (if (-top s ≤ a ∧ a ≤ top s) ∧ (-top s ≤ b ∧ b ≤ top s) then 0 else 11) else er s) := by
  have hb := top_bd s
  unfold ints_ints.f; rw [of_is]; simp only [Option.bind_some]
  have e1 : wrap64 (0 + 1) = 1 := w64 (by omega) (by omega)
  have e2 : wrap64 (1 + 1) = 2 := w64 (by omega) (by omega)
  have hr : rd [a, b] 0 = a := rfl
  have hr' : rd [a, b] 1 = b := rfl
  have hl : (([a, b] : List Int).length : Int) = 2 := rfl
  simp only [ints_ints.l0, hl]
  rw [if_pos (show (0 : Int) < 2 by decide), if_pos (show (0 : Int) ≤ 0 by decide), e1, e2, hr, hr', has_is hb.1 hb.2, has_is hb.1 hb.2]
  rw [if_pos (show (1 : Int) < 2 by decide), if_neg (show ¬ (2 : Int) < 2 by decide), if_pos (show (0 : Int) ≤ 1 by decide)]
  simp only [Option.bind_some, decide_eq_true_iff]
  by_cases he : er s = 0
  · rw [he]
    by_cases hi : -top s ≤ a ∧ a ≤ top s <;> by_cases hj : -top s ≤ b ∧ b ≤ top s <;> simp [hi, hj]
  · simp [he]

/-- the number of bits, as a natural number -/
def wd (s : Int) : Nat := if s = -1 then 16 else if s = 0 then 32 else if s = 1 then 60 else 0
theorem wid_wd (s : Int) : wid s = (wd s : Int) := by
  unfold wid wd; repeat' split
  all_goals rfl
theorem wd_le (s : Int) : wd s ≤ 60 := by
  unfold wd; repeat' split
  all_goals omega
theorem wd_pos {s : Int} (h : er s = 0) : 1 ≤ wd s := by
  revert h; unfold wd er; repeat' split
  all_goals omega
theorem p60 {W : Nat} (h : W ≤ 60) : 2 ^ W ≤ 1152921504606846976 := Nat.le_trans (Nat.pow_le_pow_right (by decide) h) (by decide)
theorem cast_p (W : Nat) : ((2 : Int) ^ W) = ((2 ^ W : Nat) : Int) := by rw [Int.natCast_pow]; rfl
/-- how many words there are of a size -/
def fl (s : Int) : Nat := 2 ^ wd s
theorem fl_bd (s : Int) : 1 ≤ fl s ∧ fl s ≤ 1152921504606846976 := ⟨Nat.two_pow_pos _, p60 (wd_le s)⟩
/-- a word of a size -/
def isw (s w : Int) : Prop := 0 ≤ w ∧ w < (fl s : Int)
instance (s w : Int) : Decidable (isw s w) := inferInstanceAs (Decidable (_ ∧ _))
theorem isw_nat {s w : Int} (h : isw s w) : ∃ x : Nat, w = x ∧ x < fl s := by
  obtain ⟨x, rfl⟩ := Int.eq_ofNat_of_zero_le h.1
  exact ⟨x, rfl, by have := h.2; omega⟩
theorem isw_zero (s : Int) : isw s 0 := ⟨Int.le_refl _, by have := fl_bd s; omega⟩
theorem i64_id {n : Int} (h : -9223372036854775808 ≤ n) (h' : n ≤ 9223372036854775807) : IntKind.i64.wrap n = n := by
  rw [IntKind.wrap_i64]; omega
theorem i64_nat {n : Nat} (h : n ≤ 9223372036854775807) : IntKind.i64.wrap (n : Int) = n := i64_id (by omega) (by omega)
theorem shl1 (s : Int) : shl .i64 1 (wd s : Int) = (fl s : Int) := by
  have h := wd_le s
  unfold shl
  have e : min (wd s : Int).toNat IntKind.i64.bits = wd s := by
    rw [Int.toNat_natCast]; simp [IntKind.bits]; omega
  rw [e, cast_p, Int.one_mul]
  exact i64_nat (by have := fl_bd s; unfold fl at this; omega)
theorem shr_nat (x m : Nat) (h : m ≤ 64) : shr .i64 (x : Int) (m : Int) = ((x / 2 ^ m : Nat) : Int) := by
  unfold shr
  have e : min (m : Int).toNat IntKind.i64.bits = m := by
    rw [Int.toNat_natCast]; simp [IntKind.bits]; omega
  rw [e, cast_p]; rfl
theorem hasw_is (M s w : Int) : ints_length_hasWord.f M (wid s) w = some (decide (isw s w)) := by
  unfold ints_length_hasWord.f
  rw [wid_wd]
  by_cases h : w ≥ 0
  · rw [if_pos h, if_pos (by omega), shl1 s]; congr 1; rw [decide_eq_decide]; exact ⟨fun x => ⟨h, x⟩, fun x => x.2⟩
  · rw [if_neg h]; congr 1; symm; rw [decide_eq_false_iff_not]; exact fun x => h x.1
theorem words1 (s a : Int) (k : Nat) : ints_words.f (k + 2) s [a] = some (top s, wid s, if er s = 0 then (if isw s a then 0 else 11) else er s) := by
  unfold ints_words.f; rw [of_is]; simp only [Option.bind_some]
  simp only [ints_words.l0, List.length_singleton]
  rw [if_pos (by decide), if_pos (by decide), if_pos (by decide)]
  have e1 : wrap64 (0 + 1) = 1 := w64 (by omega) (by omega)
  have hr : rd [a] 0 = a := rfl
  rw [e1, hr, hasw_is]; simp only [Option.bind_some]
  by_cases he : er s = 0
  · by_cases hi : isw s a <;> simp [he, hi]
  · simp [he]
theorem words2 (s a b : Int) (k : Nat) : ints_words.f (k + 3) s [a, b] = some (top s, wid s, if er s = 0 then (if isw s a ∧ isw s b then 0 else 11) else er s) := by
  unfold ints_words.f; rw [of_is]; simp only [Option.bind_some]
  have e1 : wrap64 (0 + 1) = 1 := w64 (by omega) (by omega)
  have e2 : wrap64 (1 + 1) = 2 := w64 (by omega) (by omega)
  have hr : rd [a, b] 0 = a := rfl
  have hr' : rd [a, b] 1 = b := rfl
  have hl : (([a, b] : List Int).length : Int) = 2 := rfl
  simp only [ints_words.l0, hl]
  rw [if_pos (show (0 : Int) < 2 by decide), if_pos (show (0 : Int) ≤ 0 by decide), e1, e2, hr, hr', hasw_is, hasw_is]
  rw [if_pos (show (1 : Int) < 2 by decide), if_neg (show ¬ (2 : Int) < 2 by decide), if_pos (show (0 : Int) ≤ 1 by decide)]
  simp only [Option.bind_some, decide_eq_true_iff]
  by_cases he : er s = 0
  · rw [he]
    by_cases hi : isw s a <;> by_cases hj : isw s b <;> simp [hi, hj]
  · simp [he]
/-- what an operation on words answers -/
def gw {α : Type} (z : α) (s : Int) (p : Prop) [Decidable p] (x : α × Int) : α × Int := if er s = 0 then (if p then x else (z, 11)) else (z, er s)
theorem i64_bits {x y : Nat} (hx : x < 2 ^ 60) (hy : y < 2 ^ 60) : Go.bits .and .i64 (x : Int) (y : Int) = ((x &&& y : Nat) : Int) ∧ Go.bits .or .i64 (x : Int) (y : Int) = ((x ||| y : Nat) : Int) :=
  bits_nat .i64 60 (by decide) (fun n h0 h1 => i64_id (by omega) (by have : (2 : Int) ^ 60 = 1152921504606846976 := by decide
                                                                     omega)) x y hx hy
theorem i64_xor {x y : Nat} (hx : x < 2 ^ 60) (hy : y < 2 ^ 60) : Go.bits .xor .i64 (x : Int) (y : Int) = ((x ^^^ y : Nat) : Int) := by
  have e : (2 : Nat) ^ 60 = 1152921504606846976 := by decide
  have h1 : x ^^^ y < 2 ^ 60 := Nat.xor_lt_two_pow hx hy
  have hx' : x % 2 ^ 64 = x := Nat.mod_eq_of_lt (by omega)
  have hy' : y % 2 ^ 64 = y := Nat.mod_eq_of_lt (by omega)
  show IntKind.i64.wrap ((BitVec.ofInt 64 (x : Int) ^^^ BitVec.ofInt 64 (y : Int)).toNat : Int) = _
  rw [BitVec.toNat_xor, BitVec.ofInt_natCast, BitVec.ofInt_natCast, BitVec.toNat_ofNat, BitVec.toNat_ofNat, hx', hy', i64_id (by omega) (by omega)]
theorem lt60 {s : Int} {x : Nat} (h : x < fl s) : x < 2 ^ 60 := Nat.lt_of_lt_of_le h (Nat.pow_le_pow_right (by decide) (wd_le s))
theorem and_is (s v w : Int) (k : Nat) : ints_And.f (k + 3) s v w = some (gw 0 s (isw s v ∧ isw s w) (((v.toNat &&& w.toNat : Nat) : Int), 0)) := by
  unfold ints_And.f gw; rw [words2]; simp only [Option.bind_some]
  by_cases he : er s = 0
  · by_cases hi : isw s v ∧ isw s w
    · simp only [if_pos he, if_pos hi, if_true]
      obtain ⟨x, rfl, hx⟩ := isw_nat hi.1
      obtain ⟨y, rfl, hy⟩ := isw_nat hi.2
      rw [(i64_bits (lt60 hx) (lt60 hy)).1]; rfl
    · simp only [if_pos he, if_neg hi]; simp
  · simp only [if_neg he]
theorem or_is (s v w : Int) (k : Nat) : ints_Or.f (k + 3) s v w = some (gw 0 s (isw s v ∧ isw s w) (((v.toNat ||| w.toNat : Nat) : Int), 0)) := by
  unfold ints_Or.f gw; rw [words2]; simp only [Option.bind_some]
  by_cases he : er s = 0
  · by_cases hi : isw s v ∧ isw s w
    · simp only [if_pos he, if_pos hi, if_true]
      obtain ⟨x, rfl, hx⟩ := isw_nat hi.1
      obtain ⟨y, rfl, hy⟩ := isw_nat hi.2
      rw [(i64_bits (lt60 hx) (lt60 hy)).2]; rfl
    · simp only [if_pos he, if_neg hi]; simp
  · simp only [if_neg he]
theorem not_nat {W x : Nat} (h : x < 2 ^ W) : x ^^^ (2 ^ W - 1) = 2 ^ W - 1 - x := by
  apply Nat.eq_of_testBit_eq
  intro i
  rw [Nat.testBit_xor, Nat.testBit_two_pow_sub_one, show 2 ^ W - 1 - x = 2 ^ W - (x + 1) by omega, Nat.testBit_two_pow_sub_succ h]
  by_cases hi : i < W
  · simp [hi]
  · have : x < 2 ^ i := Nat.lt_of_lt_of_le h (Nat.pow_le_pow_right (by decide) (by omega))
    simp [hi, Nat.testBit_lt_two_pow this]
theorem not_is (s w : Int) (k : Nat) : ints_Not.f (k + 2) s w = some (gw 0 s (isw s w) ((fl s : Int) - 1 - w, 0)) := by
  unfold ints_Not.f gw; rw [words1]; simp only [Option.bind_some]
  by_cases he : er s = 0
  · by_cases hi : isw s w
    · simp only [if_pos he, if_pos hi, if_true]
      obtain ⟨x, rfl, hx⟩ := isw_nat hi
      have hp := fl_bd s
      have hn : x ^^^ (fl s - 1) = fl s - 1 - x := not_nat hx
      rw [wid_wd, if_pos (by omega), shl1 s, w64 (by omega) (by omega), show (fl s : Int) - 1 = ((fl s - 1 : Nat) : Int) by omega, i64_xor (lt60 hx) (lt60 (s := s) (by omega)), hn]
      congr 2; omega
    · simp only [if_pos he, if_neg hi]; simp
  · simp only [if_neg he]
theorem elem_is (s i w : Int) (_hi0 : -9223372036854775808 ≤ i) (k : Nat) : ints_Elem.f (k + 2) s i w = some (gw false s (isw s w) (if 1 ≤ i ∧ i ≤ (wd s : Int) then (w.toNat / 2 ^ (wd s - i.toNat) % 2 == 1, 0) else (false, 11))) := by
  unfold ints_Elem.f gw; rw [words1]; simp only [Option.bind_some]
  have hw := wd_le s
  by_cases he : er s = 0
  · by_cases hi : isw s w
    · simp only [if_pos he, if_pos hi, if_true]
      obtain ⟨x, rfl, hx⟩ := isw_nat hi
      rw [wid_wd]
      by_cases h1 : i < 1
      · rw [if_pos h1, if_neg (by omega)]
      · by_cases h2 : i > (wd s : Int)
        · rw [if_neg h1, if_pos h2, if_neg (by omega)]
        · rw [if_neg h1, if_neg h2, if_pos (show 1 ≤ i ∧ i ≤ (wd s : Int) by omega), w64 (by omega) (by omega), if_pos (by omega)]
          rw [show (wd s : Int) - i = ((wd s - i.toNat : Nat) : Int) by omega, shr_nat _ _ (by omega), show (1 : Int) = ((1 : Nat) : Int) from rfl]
          have h3 : x / 2 ^ (wd s - i.toNat) < 2 ^ 60 := Nat.lt_of_le_of_lt (Nat.div_le_self _ _) (lt60 hx)
          rw [(i64_bits h3 (by decide)).1, Nat.and_one_is_mod]
          rw [Int.toNat_natCast]
          generalize x / 2 ^ (wd s - i.toNat) % 2 = d
          congr 2; rw [Bool.eq_iff_iff, beq_iff_eq, beq_iff_eq]; omega
    · simp only [if_pos he, if_neg hi]; simp
  · simp only [if_neg he]

/-- a shift, as both texts answer -/
def shS (s w n : Int) : Int × Int :=
  if n ≥ (wd s : Int) ∨ n ≤ -(wd s : Int) then (0, 0) else if n < 0 then (((w.toNat / 2 ^ (-n).toNat : Nat) : Int), 0) else (((w.toNat * 2 ^ n.toNat % fl s : Nat) : Int), 0)
theorem shift_is (s w n : Int) (h0 : -9223372036854775808 ≤ n) (k : Nat) : ints_Shift.f (k + 2) s w n = some (gw 0 s (isw s w) (shS s w n)) := by
  unfold ints_Shift.f gw; rw [words1]; simp only [Option.bind_some]
  have hw := wd_le s
  by_cases he : er s = 0
  · by_cases hi : isw s w
    · simp only [if_pos he, if_pos hi, if_true]
      obtain ⟨x, rfl, hx⟩ := isw_nat hi
      rw [wid_wd]
      unfold shS
      by_cases h1 : n ≥ (wd s : Int)
      · rw [if_pos h1, if_pos (Or.inl h1)]; simp only [ints_Shift.j0]; rfl
      · rw [if_neg h1, w64 (by omega) (by omega)]; simp only [ints_Shift.j0]
        by_cases h2 : n ≤ -(wd s : Int)
        · rw [if_pos (decide_eq_true h2), if_pos (Or.inr h2)]
        · have h12 : ¬ (n ≥ (wd s : Int) ∨ n ≤ -(wd s : Int)) := fun h => h.elim h1 h2
          rw [if_neg (show ¬ decide (n ≤ -(wd s : Int)) = true by rw [decide_eq_true_iff]; exact h2), if_neg h12]
          by_cases h3 : n < 0
          · rw [if_pos h3, if_pos h3, w64 (by omega) (by omega), if_pos (by omega)]
            have hs := shr_nat x (-n).toNat (by omega)
            rw [show (((-n).toNat : Nat) : Int) = -n by omega] at hs
            rw [hs]; rfl
          · rw [if_neg h3, if_neg h3, if_pos (show 0 ≤ n by omega), if_pos (show 0 ≤ (wd s : Int) by omega)]
            have hp := fl_bd s
            have e60 : (2 : Nat) ^ 60 = 1152921504606846976 := by decide
            have hx60 := lt60 hx
            have eu : IntKind.u64.wrap (x : Int) = (x : Int) := by rw [IntKind.wrap_u64]; omega
            have e1 : shl .u64 (x : Int) n = ((x * 2 ^ n.toNat % 18446744073709551616 : Nat) : Int) := by
              unfold shl
              have e : min n.toNat IntKind.u64.bits = n.toNat := by simp [IntKind.bits]; omega
              rw [e, cast_p, IntKind.wrap_u64]; rfl
            have e2 : IntKind.u64.wrap (shl .u64 1 (wd s : Int) - 1) = ((fl s - 1 : Nat) : Int) := by
              unfold shl
              have e : min (wd s : Int).toNat IntKind.u64.bits = wd s := by simp [IntKind.bits]; omega
              rw [e, cast_p, IntKind.wrap_u64, IntKind.wrap_u64]
              show (1 * (fl s : Int) % 18446744073709551616 - 1) % 18446744073709551616 = _
              omega
            have hm : x * 2 ^ n.toNat % 18446744073709551616 &&& (fl s - 1) = x * 2 ^ n.toNat % 18446744073709551616 % fl s := Nat.and_two_pow_sub_one_eq_mod _ _
            have hd : (18446744073709551616 : Nat) = fl s * 2 ^ (64 - wd s) := by
              unfold fl; rw [← Nat.pow_add, show wd s + (64 - wd s) = 64 by omega]
            rw [eu, e1, e2, bits_and_u64_nat _ _ (Nat.mod_lt _ (by decide)) (by omega), hm, hd, Nat.mod_mul_right_mod]
            have hlt := Nat.mod_lt (x * 2 ^ n.toNat) (show 0 < fl s by omega)
            rw [Int.toNat_natCast]
            generalize x * 2 ^ n.toNat % fl s = r at *
            rw [w64 (by omega) (by omega)]
    · simp only [if_pos he, if_neg hi]; simp
  · simp only [if_neg he]

theorem isword_is (s w : Int) (k : Nat) : ints_IsWord.f (k + 2) s w = some (decide (er s = 0 ∧ isw s w)) := by
  unfold ints_IsWord.f; rw [words1]; simp only [Option.bind_some]; congr 1
  by_cases he : er s = 0
  · by_cases hi : isw s w <;> simp [he, hi]
  · simp [he]
theorem width_is (s : Int) : ints_Width.f s = some ((wd s : Int), er s) := by unfold ints_Width.f; rw [of_is]; simp only [Option.bind_some]; rw [wid_wd]
theorem tb (x m : Nat) : x / 2 ^ m % 2 = (x.testBit m).toNat := Nat.toNat_testBit x m ▸ rfl
theorem tb1 (x m : Nat) : (x / 2 ^ m % 2 == 1) = x.testBit m := by rw [tb]; cases x.testBit m <;> rfl
theorem isw_mk {s : Int} {x : Nat} (h : x < fl s) : isw s (x : Int) := ⟨by omega, by omega⟩
theorem gw_mk {α : Type} {z : α} {s : Int} {p : Prop} [Decidable p] {x : α × Int} (he : er s = 0) (h : p) : gw z s p x = x := by
  unfold gw; rw [if_pos he, if_pos h]
theorem de_morgan {s : Int} {x y : Nat} (hx : x < fl s) (hy : y < fl s) : (fl s - 1 - x) ||| (fl s - 1 - y) = fl s - 1 - (x &&& y) := by
  have hxy : x &&& y < fl s := Nat.lt_of_le_of_lt Nat.and_le_left hx
  have e1 : x ^^^ (fl s - 1) = fl s - 1 - x := not_nat hx
  have e2 : y ^^^ (fl s - 1) = fl s - 1 - y := not_nat hy
  have e3 : (x &&& y) ^^^ (fl s - 1) = fl s - 1 - (x &&& y) := not_nat hxy
  rw [← e1, ← e2, ← e3]
  apply Nat.eq_of_testBit_eq
  intro i
  have hm : (fl s - 1).testBit i = decide (i < wd s) := Nat.testBit_two_pow_sub_one _ _
  rw [Nat.testBit_or, Nat.testBit_xor, Nat.testBit_xor, Nat.testBit_xor, Nat.testBit_and, hm]
  by_cases hi : i < wd s
  · rw [decide_eq_true hi]; cases x.testBit i <;> cases y.testBit i <;> rfl
  · have hp : 2 ^ wd s ≤ 2 ^ i := Nat.pow_le_pow_right (by decide) (by omega)
    rw [decide_eq_false hi, Nat.testBit_lt_two_pow (Nat.lt_of_lt_of_le hx hp), Nat.testBit_lt_two_pow (Nat.lt_of_lt_of_le hy hp)]; rfl
theorem pow_split {W i : Nat} (h : i ≤ W) : 2 ^ W = 2 ^ (W - i) * 2 ^ i := by rw [← Nat.pow_add]; congr 1; omega
/-- there and back -/
theorem shift_pair {s : Int} (_he : er s = 0) {x i : Nat} (hx : x < fl s) (h1 : 1 ≤ i) (h2 : i ≤ wd s) :
    ∃ there back kept again : Nat, shS s x i = ((there : Int), 0) ∧ there < fl s ∧ shS s there (-i) = ((back : Int), 0) ∧ back < fl s ∧ shS s x ((i : Int) - wd s) = ((kept : Int), 0) ∧ kept < fl s ∧ shS s kept ((wd s : Int) - i) = ((again : Int), 0) ∧ again < fl s ∧ back ||| again = x := by
  have hfl := fl_bd s
  have hf : fl s = 2 ^ wd s := rfl
  by_cases hw : i = wd s
  · subst hw
    refine ⟨0, 0, x, x, ?_, by omega, ?_, by omega, ?_, hx, ?_, hx, by simp⟩
    · unfold shS; rw [if_pos (Or.inl (by omega))]; rfl
    · unfold shS; rw [if_pos (Or.inr (by omega))]; rfl
    · unfold shS; rw [if_neg (by omega), if_neg (by omega), show ((wd s : Int) - wd s).toNat = 0 by omega, Int.toNat_natCast, Nat.pow_zero, Nat.mul_one, Nat.mod_eq_of_lt hx]
    · unfold shS; rw [if_neg (by omega), if_neg (by omega), show ((wd s : Int) - wd s).toNat = 0 by omega, Int.toNat_natCast, Nat.pow_zero, Nat.mul_one, Nat.mod_eq_of_lt hx]
  · have hp := pow_split h2
    have hpi := Nat.two_pow_pos i
    have hpj := Nat.two_pow_pos (wd s - i)
    have e1 : x * 2 ^ i % fl s = (x % 2 ^ (wd s - i)) * 2 ^ i := by rw [hf, hp, Nat.mul_mod_mul_right]
    have e2 : (x % 2 ^ (wd s - i)) * 2 ^ i / 2 ^ i = x % 2 ^ (wd s - i) := Nat.mul_div_cancel _ hpi
    have l1 : x * 2 ^ i % fl s < fl s := Nat.mod_lt _ (by omega)
    have l2 : x % 2 ^ (wd s - i) ≤ x := Nat.mod_le _ _
    have l3 : x / 2 ^ (wd s - i) ≤ x := Nat.div_le_self _ _
    have hdm := Nat.div_add_mod x (2 ^ (wd s - i))
    have l4 : x / 2 ^ (wd s - i) * 2 ^ (wd s - i) ≤ x := Nat.div_mul_le_self _ _
    refine ⟨x * 2 ^ i % fl s, x % 2 ^ (wd s - i), x / 2 ^ (wd s - i), x / 2 ^ (wd s - i) * 2 ^ (wd s - i), ?_, l1, ?_, by omega, ?_, by omega, ?_, by omega, ?_⟩
    · unfold shS; rw [if_neg (by omega), if_neg (by omega), Int.toNat_natCast, Int.toNat_natCast]
    · unfold shS; rw [if_neg (by omega), if_pos (by omega), show (-(-(i : Int))).toNat = i by omega, Int.toNat_natCast, e1, e2]
    · unfold shS; rw [if_neg (by omega), if_pos (by omega), show (-((i : Int) - wd s)).toNat = wd s - i by omega, Int.toNat_natCast]
    · unfold shS; rw [if_neg (by omega), if_neg (by omega), show ((wd s : Int) - i).toNat = wd s - i by omega, Int.toNat_natCast, Nat.mod_eq_of_lt (by omega)]
    · have ho := Nat.two_pow_add_eq_or_of_lt (Nat.mod_lt x hpj) (x / 2 ^ (wd s - i))
      rw [Nat.or_comm, Nat.mul_comm, ← ho]; exact hdm

end Go.Proofs.Ytgifknjcdkhmmaa.BitsFacts
