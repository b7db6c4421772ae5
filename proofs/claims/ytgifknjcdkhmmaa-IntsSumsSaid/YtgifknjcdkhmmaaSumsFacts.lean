import Derived.Test.YtgifknjcdkhmmaaPIntsSumsx2
import Derived.Laws.MathBits
namespace Go.Proofs.Ytgifknjcdkhmmaa.SumsFacts
open Go.RowKit Go.Proofs.Ytgifknjcdkhmmaa.PIntsSums Go.Proofs.YtgifknjcdkhmmaaW.PrintWords Go.Proofs.YtgifknjcdkhmmaaW.PrintLast Go.Proofs.YtgifknjcdkhmmaaW.PrintMore
/-! the sizes: what is there of a size, and what the guards tell -/
def top (s : Int) : Int := if s = -1 then 32767 else if s = 0 then 2147483647 else if s = 1 then 999999999999999999 else 0
def wid (s : Int) : Int := if s = -1 then 16 else if s = 0 then 32 else if s = 1 then 60 else 0
def er (s : Int) : Int := if s = -1 then 0 else if s = 0 then 0 else if s = 1 then 0 else 1
theorem top_bd (s : Int) : 0 ≤ top s ∧ top s ≤ 999999999999999999 := by
  unfold top; repeat' split
  all_goals omega
theorem of_is (s : Int) : ints_of.f s = some (top s, wid s, er s) := by
  unfold ints_of.f top wid er
  repeat' split
  all_goals first | rfl | omega
theorem w64 {n : Int} (h : -9223372036854775808 ≤ n) (h' : n ≤ 9223372036854775807) : wrap64 n = n := by
  unfold wrap64; omega
theorem has_is {M W n : Int} (h0 : 0 ≤ M) (h1 : M ≤ 999999999999999999) : ints_length_has.f M W n = some (decide (-M ≤ n ∧ n ≤ M)) := by
  unfold ints_length_has.f
  rw [w64 (by omega) (by omega)]
  by_cases h : -M ≤ n
  · rw [if_pos h]; congr 1; rw [decide_eq_decide]; exact ⟨fun x => ⟨h, x⟩, fun x => x.2⟩
  · rw [if_neg h]; congr 1; symm; rw [decide_eq_false_iff_not]; exact fun x => h x.1
/-- the error of a list of integers -/
def erI (s : Int) : List Int → Int
  | [] => er s
  | a :: l => if er s ≠ 0 then er s else if -top s ≤ a ∧ a ≤ top s then erI s l else 11
theorem ints1 (s a : Int) (k : Nat) : ints_ints.f (k + 2) s [a] = some (top s, wid s, if er s = 0 then (if -top s ≤ a ∧ a ≤ top s then 0 else 11) else er s) := by
  have hb := top_bd s
  unfold ints_ints.f; rw [of_is]; simp only [Option.bind_some]
  simp only [ints_ints.l0, List.length_singleton]
  rw [if_pos (by decide), if_pos (by decide), if_pos (by decide)]
  have e1 : wrap64 (0 + 1) = 1 := w64 (by omega) (by omega)
  have hr : rd [a] 0 = a := rfl
  rw [e1, hr, has_is hb.1 hb.2]; simp only [Option.bind_some]
  by_cases he : er s = 0
  · by_cases hi : -top s ≤ a ∧ a ≤ top s <;> simp [he, hi]
  · simp [he]
theorem ints2 (s a b : Int) (k : Nat) : ints_ints.f (k + 3) s [a, b] = some (top s, wid s, if er s = 0 then (if (-top s ≤ a ∧ a ≤ top s) ∧ (-top s ≤ b ∧ b ≤ top s) then 0 else 11) else er s) := by
  have hb := top_bd s
  unfold ints_ints.f; rw [of_is]; simp only [Option.bind_some]
  have e1 : wrap64 (0 + 1) = 1 := w64 (by omega) (by omega)
  have e2 : wrap64 (1 + 1) = 2 := w64 (by omega) (by omega)
  have hr : rd [a, b] 0 = a := rfl
  have hr' : rd [a, b] 1 = b := rfl
  have hl : (([a, b] : List Int).length : Int) = 2 := rfl
  simp only [ints_ints.l0, hl]
  rw [if_pos (show (0 : Int) < 2 by decide), if_pos (show (0 : Int) ≤ 0 by decide), e1, e2, hr, hr', has_is hb.1 hb.2, has_is hb.1 hb.2]
  rw [if_pos (show (1 : Int) < 2 by decide), if_neg (show ¬ (2 : Int) < 2 by decide), if_pos (show (0 : Int) ≤ 1 by decide)]
  simp only [Option.bind_some, decide_eq_true_iff]
  by_cases he : er s = 0
  · rw [he]
    by_cases hi : -top s ≤ a ∧ a ≤ top s <;> by_cases hj : -top s ≤ b ∧ b ≤ top s <;> simp [hi, hj]
  · simp [he]

theorem er_bd (s : Int) : er s = 0 ∨ er s = 1 := by
  unfold er; repeat' split
  all_goals omega
/-- what an operation on two integers answers: the error of the size, that of the integers, else x -/
def gd (s : Int) (p : Prop) [Decidable p] (x : Int × Int) : Int × Int := if er s = 0 then (if p then x else (0, 11)) else (0, er s)
/-- a result that must be an integer of the size -/
def inn (s n : Int) : Int × Int := if -top s ≤ n ∧ n ≤ top s then (n, 0) else (0, 11)
theorem mul64_is {a b : Int} (h0 : 0 ≤ a) (h1 : a < 18446744073709551616) (h2 : 0 ≤ b) (h3 : b < 18446744073709551616) : bits_Mul64.f a b = some (a * b / 18446744073709551616, a * b % 18446744073709551616) := by
  have hm := mul64_arith a b h0 h1 h2 h3
  unfold bits_Mul64.f
  have ha : Go.bits .and .u64 a 4294967295 = a % 4294967296 := and_low32 a h0 h1
  have hb : Go.bits .and .u64 b 4294967295 = b % 4294967296 := and_low32 b h2 h3
  simp only [ha, hb, IntKind.wrap_u64]
  rw [and_low32 _ (Int.emod_nonneg _ (by decide)) (Int.emod_lt_of_pos _ (by decide)), hm]
theorem abs_le {a M : Int} (h : -M ≤ a ∧ a ≤ M) : (a.natAbs : Int) ≤ M := by omega
theorem mag_is' {a : Int} (h : -999999999999999999 ≤ a) (h' : a ≤ 999999999999999999) : ints_magnitude.f a = some (a.natAbs : Int) := by
  unfold ints_magnitude.f
  by_cases hb : a < 0
  · rw [if_pos hb, w64 (by omega) (by omega)]; congr 1; omega
  · rw [if_neg hb]; congr 1; omega
theorem abs_prod (a b M : Int) : ((a.natAbs : Int) * (b.natAbs : Int) ≤ M) ↔ (-M ≤ a * b ∧ a * b ≤ M) := by
  have h := Int.natAbs_mul a b
  have h' : ((a * b).natAbs : Int) = (a.natAbs : Int) * (b.natAbs : Int) := by rw [h]; simp
  rw [← h']; omega
theorem times_is {M W a b : Int} (h0 : 0 ≤ M) (h1 : M ≤ 999999999999999999) (ha : -M ≤ a ∧ a ≤ M) (hb : -M ≤ b ∧ b ≤ M) :
    ints_length_times.f M W a b = some (wrap64 (a * b), decide (-M ≤ a * b ∧ a * b ≤ M)) := by
  have ea := abs_le ha
  have eb := abs_le hb
  have hp := abs_prod a b M
  unfold ints_length_times.f
  rw [mag_is' (by omega) (by omega), mag_is' (by omega) (by omega)]; simp only [Option.bind_some]
  rw [IntKind.wrap_u64, IntKind.wrap_u64, IntKind.wrap_u64, Int.emod_eq_of_lt (by omega) (by omega), Int.emod_eq_of_lt (by omega) (by omega), Int.emod_eq_of_lt (by omega) (by omega), mul64_is (by omega) (by omega) (by omega) (by omega)]
  simp only [Option.bind_some]
  have hn : 0 ≤ (a.natAbs : Int) * (b.natAbs : Int) := Int.mul_nonneg (by omega) (by omega)
  generalize (a.natAbs : Int) * (b.natAbs : Int) = n at *
  by_cases hz : n / 18446744073709551616 = 0
  · rw [if_pos hz]; congr 2; rw [decide_eq_decide, ← hp]; omega
  · rw [if_neg hz]; congr 2; symm; rw [decide_eq_false_iff_not, ← hp]; omega

theorem in_is (s n : Int) : ints_in.f (decide (-top s ≤ n ∧ n ≤ top s)) n = some (inn s n) := by
  unfold ints_in.f inn
  by_cases h : -top s ≤ n ∧ n ≤ top s <;> simp [h]
theorem add_is (s a b : Int) (k : Nat) : ints_Add.f (k + 3) s a b = some (gd s ((-top s ≤ a ∧ a ≤ top s) ∧ (-top s ≤ b ∧ b ≤ top s)) (inn s (a + b))) := by
  have hb := top_bd s
  unfold ints_Add.f gd; rw [ints2]; simp only [Option.bind_some]
  by_cases he : er s = 0
  · by_cases hi : (-top s ≤ a ∧ a ≤ top s) ∧ (-top s ≤ b ∧ b ≤ top s)
    · simp only [if_pos he, if_pos hi, if_true]
      rw [w64 (by omega) (by omega), has_is hb.1 hb.2]; simp only [Option.bind_some]; rw [in_is]; rfl
    · simp only [if_pos he, if_neg hi]; simp
  · simp only [if_neg he]
theorem sub_is (s a b : Int) (k : Nat) : ints_Sub.f (k + 3) s a b = some (gd s ((-top s ≤ a ∧ a ≤ top s) ∧ (-top s ≤ b ∧ b ≤ top s)) (inn s (a - b))) := by
  have hb := top_bd s
  unfold ints_Sub.f gd; rw [ints2]; simp only [Option.bind_some]
  by_cases he : er s = 0
  · by_cases hi : (-top s ≤ a ∧ a ≤ top s) ∧ (-top s ≤ b ∧ b ≤ top s)
    · simp only [if_pos he, if_pos hi, if_true]
      rw [w64 (by omega) (by omega), has_is hb.1 hb.2]; simp only [Option.bind_some]; rw [in_is]; rfl
    · simp only [if_pos he, if_neg hi]; simp
  · simp only [if_neg he]
theorem in_mul (s n : Int) : ints_in.f (decide (-top s ≤ n ∧ n ≤ top s)) (wrap64 n) = some (inn s n) := by
  have hb := top_bd s
  unfold ints_in.f inn
  by_cases h : -top s ≤ n ∧ n ≤ top s
  · rw [w64 (by omega) (by omega)]; simp [h]
  · simp [h]
theorem mul_is (s a b : Int) (k : Nat) : ints_Mul.f (k + 3) s a b = some (gd s ((-top s ≤ a ∧ a ≤ top s) ∧ (-top s ≤ b ∧ b ≤ top s)) (inn s (a * b))) := by
  have hb := top_bd s
  unfold ints_Mul.f gd; rw [ints2]; simp only [Option.bind_some]
  by_cases he : er s = 0
  · by_cases hi : (-top s ≤ a ∧ a ≤ top s) ∧ (-top s ≤ b ∧ b ≤ top s)
    · simp only [if_pos he, if_pos hi, if_true]
      rw [times_is hb.1 hb.2 hi.1 hi.2]; simp only [Option.bind_some]; rw [in_mul]; rfl
    · simp only [if_pos he, if_neg hi]; simp
  · simp only [if_neg he]

/-- the loop of powers: n times by a, each product an integer up to M -/
def lp (M a : Int) : Nat → Int → Option Int
  | 0, out => some out
  | n + 1, out => if -M ≤ out * a ∧ out * a ≤ M then lp M a n (out * a) else none
def lpr : Option Int → Int × Int
  | some r => (r, 0)
  | none => (0, 11)
theorem pow_loop {M W a : Int} (h0 : 0 ≤ M) (h1 : M ≤ 999999999999999999) (ha : -M ≤ a ∧ a ≤ M) (N : Int) (hN : N ≤ 64) : ∀ (n k : Nat) (out i : Int), 0 ≤ i → N - i = n → n < k → -M ≤ out ∧ out ≤ M → ints_Pow.l0 k a out N i M W = some (lpr (lp M a n out)) := by
  intro n
  induction n with
  | zero =>
    intro k out i hi hn hk ho
    obtain ⟨k, rfl⟩ : ∃ m, k = m + 1 := ⟨k - 1, by omega⟩
    simp only [ints_Pow.l0]; rw [if_neg (by omega)]; rfl
  | succ n ih =>
    intro k out i hi hn hk ho
    obtain ⟨k, rfl⟩ : ∃ m, k = m + 1 := ⟨k - 1, by omega⟩
    simp only [ints_Pow.l0]; rw [if_pos (by omega), times_is h0 h1 ho ha]; simp only [Option.bind_some]
    by_cases hp : -M ≤ out * a ∧ out * a ≤ M
    · rw [if_pos (by simp [hp]), w64 (by omega) (by omega), w64 (by omega) (by omega), ih k (out * a) (i + 1) (by omega) (by omega) (by omega) hp]
      simp only [lp]; rw [if_pos hp]
    · rw [if_neg (by simp [hp])]; simp only [lp]; rw [if_neg hp]; rfl
theorem lp_some {M a : Int} : ∀ (n : Nat) (out r : Int), lp M a n out = some r → r = out * a ^ n ∧ (0 < n → -M ≤ r ∧ r ≤ M) := by
  intro n
  induction n with
  | zero => intro out r h; simp only [lp] at h; cases h; exact ⟨by simp, fun h => absurd h (by omega)⟩
  | succ n ih =>
    intro out r h
    simp only [lp] at h
    by_cases hp : -M ≤ out * a ∧ out * a ≤ M
    · rw [if_pos hp] at h
      obtain ⟨h1, h2⟩ := ih _ _ h
      refine ⟨by rw [h1, Int.pow_succ']; rw [Int.mul_assoc], fun _ => ?_⟩
      by_cases hn : 0 < n
      · exact h2 hn
      · obtain rfl : n = 0 := by omega
        rw [h1]; simpa using hp
    · rw [if_neg hp] at h; cases h
theorem pow_big (a : Int) (h : 2 ≤ a.natAbs) (n : Nat) : 2 ^ n ≤ (a ^ n).natAbs := by
  rw [Int.natAbs_pow]; exact Nat.pow_le_pow_left h n
theorem lp_far {M a : Int} (h1 : M ≤ 999999999999999999) (h : 2 ≤ a.natAbs) (n : Nat) (hn : 60 ≤ n) : lp M a n 1 = none := by
  cases e : lp M a n 1 with
  | none => rfl
  | some r =>
    obtain ⟨h2, h3⟩ := lp_some n 1 r e
    have h4 := pow_big a h n
    have h5 : (2 : Nat) ^ 60 ≤ 2 ^ n := Nat.pow_le_pow_right (by decide) hn
    have h6 := h3 (by omega)
    rw [Int.one_mul] at h2
    rw [← h2] at h4
    have h7 : (2 : Nat) ^ 60 = 1152921504606846976 := by decide
    omega
/-- a power: what both texts answer -/
def powS (s a n : Int) : Int × Int :=
  if n < 0 then (0, 11) else if a = 0 then (if n = 0 then (1, 0) else (0, 0)) else if a = 1 then (1, 0) else if a = -1 then (if n % 2 = 0 then (1, 0) else (-1, 0)) else lpr (lp (top s) a n.toNat 1)
theorem tmod2 {n : Int} (h : 0 ≤ n) : Int.tmod n 2 = n % 2 := Int.tmod_eq_emod_of_nonneg h
theorem pow_is (s a n : Int) (hn' : n ≤ 9223372036854775807) (k : Nat) : ints_Pow.f (k + 80) s a n = some (gd s (-top s ≤ a ∧ a ≤ top s) (powS s a n)) := by
  have ht := top_bd s
  unfold ints_Pow.f gd
  rw [show k + 80 = (k + 78) + 2 from rfl, ints1]; simp only [Option.bind_some]
  by_cases he : er s = 0
  · have ht2 : 32767 ≤ top s := by
      revert he; unfold er top; repeat' split
      all_goals omega
    by_cases hi : -top s ≤ a ∧ a ≤ top s
    · simp only [if_pos he, if_pos hi, if_true]
      unfold powS
      by_cases hn : n < 0
      · rw [if_pos hn, if_pos hn]
      · rw [if_neg hn, if_neg hn]
        have hloop : ∀ (N : Int) (m : Nat), N = m → m ≤ 64 → ints_Pow.j1 (k + 79) a N (top s) (wid s) = some (lpr (lp (top s) a m 1)) := by
          intro N m h h'
          simp only [ints_Pow.j1]
          exact pow_loop ht.1 ht.2 hi N (by omega) m (k + 78) 1 0 (by omega) (by omega) (by omega) (by omega)
        have hj : ∀ b : Bool, ints_Pow.j0 (k + 78 + 2) a n b (top s) (wid s) = if b = true then (if n > 2 then ints_Pow.j1 (k + 79) a (wrap64 (2 - Int.tmod n 2)) (top s) (wid s) else ints_Pow.j1 (k + 79) a n (top s) (wid s)) else (if n > 64 then some (0, 11) else ints_Pow.j1 (k + 79) a n (top s) (wid s)) := fun b => rfl
        by_cases h1 : a ≥ -1
        · rw [if_pos h1, hj]
          by_cases h2 : a ≤ 1
          · rw [if_pos (by simpa using h2)]
            have hsm : ∀ (N : Int) (m : Nat), N = m → m ≤ 2 → (N % 2 = n % 2) → (N = 0 ↔ n = 0) → ints_Pow.j1 (k + 79) a N (top s) (wid s) = some (if a = 0 then (if n = 0 then (1, 0) else (0, 0)) else if a = 1 then (1, 0) else if a = -1 then (if n % 2 = 0 then (1, 0) else (-1, 0)) else lpr (lp (top s) a n.toNat 1)) := by
              intro N m h h' hpar hz
              rw [hloop N m h (by omega)]
              congr 1
              have hm : m = 0 ∨ m = 1 ∨ m = 2 := by omega
              have ha : a = 0 ∨ a = 1 ∨ a = -1 := by omega
              have hg : -top s ≤ 1 ∧ 1 ≤ top s ∧ -top s ≤ 0 ∧ 0 ≤ top s ∧ -top s ≤ -1 ∧ -1 ≤ top s := by omega
              obtain ⟨g1, g2, g3, g4, g5, g6⟩ := hg
              rcases hm with rfl | rfl | rfl <;> rcases ha with rfl | rfl | rfl <;> simp [lp, lpr, *] <;> omega
            by_cases h3 : n > 2
            · rw [if_pos h3, tmod2 (by omega), w64 (by omega) (by omega)]
              exact hsm (2 - n % 2) (2 - n % 2).toNat (by omega) (by omega) (by omega) (by omega)
            · rw [if_neg h3]; exact hsm n n.toNat (by omega) (by omega) rfl Iff.rfl
          · rw [if_neg (by simpa using h2), if_neg (show ¬ a = 0 by omega), if_neg (show ¬ a = 1 by omega), if_neg (show ¬ a = -1 by omega)]
            by_cases h3 : n > 64
            · rw [if_pos h3, lp_far ht.2 (by omega) n.toNat (by omega)]; rfl
            · rw [if_neg h3, hloop n n.toNat (by omega) (by omega)]
        · rw [if_neg h1, hj, if_neg (by decide), if_neg (show ¬ a = 0 by omega), if_neg (show ¬ a = 1 by omega), if_neg (show ¬ a = -1 by omega)]
          by_cases h3 : n > 64
          · rw [if_pos h3, lp_far ht.2 (by omega) n.toNat (by omega)]; rfl
          · rw [if_neg h3, hloop n n.toNat (by omega) (by omega)]
    · simp only [if_pos he, if_neg hi]; simp
  · simp only [if_neg he]

theorem neg_one_pow (n : Nat) : (-1 : Int) ^ n = if n % 2 = 0 then 1 else -1 := by
  induction n with
  | zero => rfl
  | succ n ih => rw [Int.pow_succ, ih]; repeat' split
                 all_goals omega
theorem zero_pow' (n : Nat) (h : 0 < n) : (0 : Int) ^ n = 0 := by
  obtain ⟨m, rfl⟩ : ∃ m, n = m + 1 := ⟨n - 1, by omega⟩
  rw [Int.pow_succ, Int.mul_zero]
theorem lp_part {M a : Int} : ∀ (m j : Nat) (out r : Int), lp M a (m + j) out = some r → ∃ x, lp M a m out = some x := by
  intro m
  induction m with
  | zero => intro j out r _; exact ⟨out, rfl⟩
  | succ m ih =>
    intro j out r h
    rw [show m + 1 + j = (m + j) + 1 by omega] at h
    simp only [lp] at h ⊢
    by_cases hp : -M ≤ out * a ∧ out * a ≤ M
    · rw [if_pos hp] at h ⊢; exact ih _ _ _ h
    · rw [if_neg hp] at h; cases h
theorem lpr_ok {o : Option Int} {p e : Int} (h : lpr o = (p, e)) : (e = 0 ∧ o = some p) ∨ e = 11 := by
  cases o with
  | none => simp only [lpr, Prod.mk.injEq] at h; exact Or.inr h.2.symm
  | some r => simp only [lpr, Prod.mk.injEq] at h; exact Or.inl ⟨h.2.symm, by rw [h.1]⟩
/-- a power that is there is the power, in range, and all smaller powers are there -/
theorem powS_ok {s a n p : Int} (he : er s = 0) (hn : 0 ≤ n) (h : powS s a n = (p, 0)) : p = a ^ n.toNat ∧ (-top s ≤ p ∧ p ≤ top s) ∧ ∀ m, 0 ≤ m → m ≤ n → ∃ x, powS s a m = (x, 0) := by
  have ht2 : 32767 ≤ top s := by
    revert he; unfold er top; repeat' split
    all_goals omega
  unfold powS at h
  rw [if_neg (by omega)] at h
  by_cases h0 : a = 0
  · subst h0; rw [if_pos rfl] at h
    refine ⟨?_, ?_, ?_⟩
    · by_cases hz : n = 0
      · subst hz; simp at h; rw [← h]; rfl
      · rw [if_neg hz] at h; simp at h; rw [zero_pow' _ (by omega)]; exact h.symm
    · by_cases hz : n = 0
      · rw [if_pos hz] at h; simp at h; omega
      · rw [if_neg hz] at h; simp at h; omega
    · intro m h1 h2; unfold powS; rw [if_neg (by omega), if_pos rfl]; by_cases hz : m = 0
      · exact ⟨1, by rw [if_pos hz]⟩
      · exact ⟨0, by rw [if_neg hz]⟩
  · rw [if_neg h0] at h
    by_cases h1 : a = 1
    · subst h1; rw [if_pos rfl] at h; simp at h; subst h
      refine ⟨by rw [Int.one_pow], by omega, fun m h2 h3 => ⟨1, by unfold powS; rw [if_neg (by omega), if_neg h0, if_pos rfl]⟩⟩
    · rw [if_neg h1] at h
      by_cases h2 : a = -1
      · subst h2; rw [if_pos rfl] at h
        refine ⟨?_, ?_, ?_⟩
        · rw [neg_one_pow]; by_cases hz : n % 2 = 0
          · rw [if_pos hz] at h; simp at h; rw [if_pos (by omega)]; exact h.symm
          · rw [if_neg hz] at h; simp at h; rw [if_neg (by omega)]; exact h.symm
        · by_cases hz : n % 2 = 0
          · rw [if_pos hz] at h; simp at h; omega
          · rw [if_neg hz] at h; simp at h; omega
        · intro m h3 h4; unfold powS; rw [if_neg (by omega), if_neg h0, if_neg h1, if_pos rfl]; by_cases hz : m % 2 = 0
          · exact ⟨1, by rw [if_pos hz]⟩
          · exact ⟨-1, by rw [if_neg hz]⟩
      · rw [if_neg h2] at h
        have hs : lp (top s) a n.toNat 1 = some p := by
          rcases lpr_ok h with ⟨_, h⟩ | h
          · exact h
          · omega
        obtain ⟨h3, h4⟩ := lp_some _ _ _ hs
        refine ⟨by rw [h3, Int.one_mul], ?_, ?_⟩
        · by_cases hz : 0 < n.toNat
          · exact h4 hz
          · rw [show n.toNat = 0 by omega] at h3; simp at h3; omega
        · intro m h5 h6; unfold powS; rw [if_neg (by omega), if_neg h0, if_neg h1, if_neg h2]
          obtain ⟨x, hx⟩ := lp_part m.toNat (n.toNat - m.toNat) 1 p (by rw [show m.toNat + (n.toNat - m.toNat) = n.toNat by omega]; exact hs)
          exact ⟨x, by rw [hx]; rfl⟩
/-- the error of a power is 0, or 1, or 11 -/
theorem gd_err {s : Int} {p : Prop} [Decidable p] {x : Int × Int} {y : Int} (h : gd s p x = (y, 0)) : er s = 0 ∧ p ∧ x = (y, 0) := by
  unfold gd at h
  by_cases he : er s = 0
  · rw [if_pos he] at h
    by_cases hp : p
    · rw [if_pos hp] at h; exact ⟨he, hp, h⟩
    · rw [if_neg hp] at h; simp at h
  · rw [if_neg he] at h; simp at h; exact absurd h.2 he
theorem gd_mk {s : Int} {p : Prop} [Decidable p] {x : Int × Int} (he : er s = 0) (hp : p) : gd s p x = x := by
  unfold gd; rw [if_pos he, if_pos hp]
theorem inn_ok {s n y : Int} (h : inn s n = (y, 0)) : y = n ∧ (-top s ≤ n ∧ n ≤ top s) := by
  unfold inn at h
  by_cases hp : -top s ≤ n ∧ n ≤ top s
  · rw [if_pos hp] at h; simp at h; exact ⟨h.symm, hp⟩
  · rw [if_neg hp] at h; simp at h
theorem inn_mk {s n : Int} (h : -top s ≤ n ∧ n ≤ top s) : inn s n = (n, 0) := by unfold inn; rw [if_pos h]
theorem comm_and (p q : Prop) [Decidable p] [Decidable q] (s : Int) (x : Int × Int) : gd s (p ∧ q) x = gd s (q ∧ p) x := by
  unfold gd; by_cases hp : p <;> by_cases hq : q <;> simp [hp, hq]
theorem sub_back {s a b x : Int} (h : ints_Add.f 3 s a b = some (x, 0)) : ints_Sub.f 3 s x b = some (a, 0) := by
  rw [add_is s a b 0] at h
  obtain ⟨he, hi, hx⟩ := gd_err (Option.some.inj h)
  obtain ⟨rfl, hr⟩ := inn_ok hx
  rw [sub_is s (a + b) b 0, gd_mk he ⟨hr, hi.2⟩, show a + b - b = a by omega, inn_mk hi.1]
theorem pow_parts {s a b p : Int} (h0 : 0 ≤ b) (h1 : b ≤ 70) (h : ints_Pow.f 80 s a b = some (p, 0)) : ∃ x y, ints_Pow.f 80 s a (b / 2) = some (x, 0) ∧ ints_Pow.f 80 s a (b - b / 2) = some (y, 0) ∧ ints_Mul.f 3 s x y = some (p, 0) := by
  rw [pow_is s a b (by omega) 0] at h
  obtain ⟨he, hi, hp⟩ := gd_err (Option.some.inj h)
  obtain ⟨h2, h3, h4⟩ := powS_ok he h0 hp
  obtain ⟨x, hx⟩ := h4 (b / 2) (by omega) (by omega)
  obtain ⟨y, hy⟩ := h4 (b - b / 2) (by omega) (by omega)
  obtain ⟨ex, rx, _⟩ := powS_ok he (by omega) hx
  obtain ⟨ey, ry, _⟩ := powS_ok he (by omega) hy
  refine ⟨x, y, ?_, ?_, ?_⟩
  · rw [pow_is s a _ (by omega) 0, gd_mk he hi, hx]
  · rw [pow_is s a _ (by omega) 0, gd_mk he hi, hy]
  · have hm : x * y = p := by
      rw [ex, ey, h2, ← Int.pow_add]; congr 1; omega
    rw [mul_is s x y 0, gd_mk he ⟨rx, ry⟩, hm, inn_mk h3]

end Go.Proofs.Ytgifknjcdkhmmaa.SumsFacts
