/- For every size and all numbers a, b, IntsDivides answers true: quotient and remainder lead back to the number. No condition. -/
import Derived.Test.YtgifknjcdkhmmaaPIntsDividesx3
namespace Go.Proofs.Ytgifknjcdkhmmaa.Pure
open Go.RowKit Go.Proofs.Ytgifknjcdkhmmaa.PIntsDivides Go.Proofs.YtgifknjcdkhmmaaW.PrintWords Go.Proofs.YtgifknjcdkhmmaaW.PrintLast Go.Proofs.YtgifknjcdkhmmaaW.PrintMore
/-! the sizes: what is there of a size, and what the guards tell -/
def top (s : Int) : Int := if s = -1 then 32767 else if s = 0 then 2147483647 else if s = 1 then 999999999999999999 else 0
def wid (s : Int) : Int := if s = -1 then 16 else if s = 0 then 32 else if s = 1 then 60 else 0
def er (s : Int) : Int := if s = -1 then 0 else if s = 0 then 0 else if s = 1 then 0 else 1
theorem top_bd (s : Int) : 0 ≤ top s ∧ top s ≤ 999999999999999999 := by
  unfold top; repeat' split
  all_goals omega
theorem of_is (s : Int) : ints_of.f s = some (top s, wid s, er s) := by
  unfold ints_of.f top wid er
  repeat' split
  all_goals first | rfl | omega
theorem w64 {n : Int} (h : -9223372036854775808 ≤ n) (h' : n ≤ 9223372036854775807) : wrap64 n = n := by
  unfold wrap64; omega
theorem has_is {M W n : Int} (h0 : 0 ≤ M) (h1 : M ≤ 999999999999999999) : ints_length_has.f M W n = some (decide (-M ≤ n ∧ n ≤ M)) := by
  unfold ints_length_has.f
  rw [w64 (by omega) (by omega)]
  by_cases h : -M ≤ n
  · rw [if_pos h]; congr 1; rw [decide_eq_decide]; exact ⟨fun x => ⟨h, x⟩, fun x => x.2⟩
  · rw [if_neg h]; congr 1; symm; rw [decide_eq_false_iff_not]; exact fun x => h x.1
/-- the error of a list of integers -/
def erI (s : Int) : List Int → Int
  | [] => er s
  | a :: l => if er s ≠ 0 then er s else if -top s ≤ a ∧ a ≤ top s then erI s l else 11
theorem ints1 (s a : Int) (k : Nat) : ints_ints.f (k + 2) s [a] = some (top s, wid s, if er s = 0 then (if -top s ≤ a ∧ a ≤ top s then 0 else 11) else er s) := by
  have hb := top_bd s
  unfold ints_ints.f; rw [of_is]; simp only [Option.bind_some]
  simp only [ints_ints.l0, List.length_singleton]
  rw [if_pos (by decide), if_pos (by decide), if_pos (by decide)]
  have e1 : wrap64 (0 + 1) = 1 := w64 (by omega) (by omega)
  have hr : rd [a] 0 = a := rfl
  rw [e1, hr, has_is hb.1 hb.2]; simp only [Option.bind_some]
  by_cases he : er s = 0
  · by_cases hi : -top s ≤ a ∧ a ≤ top s <;> simp [he, hi]
  · simp [he]
theorem ints2 (s a b : Int) (k : Nat) : ints_ints.f (k + 3) s [a, b] = some (top s, wid s, if er s = 0 then (if (-top s ≤ a ∧ a ≤ top s) ∧ (-top s ≤ b ∧ b ≤ top s) then 0 else 11) else er s) := by
  have hb := top_bd s
  unfold ints_ints.f; rw [of_is]; simp only [Option.bind_some]
  have e1 : wrap64 (0 + 1) = 1 := w64 (by omega) (by omega)
  have e2 : wrap64 (1 + 1) = 2 := w64 (by omega) (by omega)
  have hr : rd [a, b] 0 = a := rfl
  have hr' : rd [a, b] 1 = b := rfl
  have hl : (([a, b] : List Int).length : Int) = 2 := rfl
  simp only [ints_ints.l0, hl]
  rw [if_pos (show (0 : Int) < 2 by decide), if_pos (show (0 : Int) ≤ 0 by decide), e1, e2, hr, hr', has_is hb.1 hb.2, has_is hb.1 hb.2]
  rw [if_pos (show (1 : Int) < 2 by decide), if_neg (show ¬ (2 : Int) < 2 by decide), if_pos (show (0 : Int) ≤ 1 by decide)]
  simp only [Option.bind_some, decide_eq_true_iff]
  by_cases he : er s = 0
  · rw [he]
    by_cases hi : -top s ≤ a ∧ a ≤ top s <;> by_cases hj : -top s ≤ b ∧ b ≤ top s <;> simp [hi, hj]
  · simp [he]

theorem over_is (s a b : Int) (k : Nat) : ints_Over.f (k + 3) s a b = some (if er s = 0 then (if (-top s ≤ a ∧ a ≤ top s) ∧ (-top s ≤ b ∧ b ≤ top s) then (if b = 0 then (0, 11) else (wrap64 (Int.tdiv a b), 0)) else (0, 11)) else (0, er s)) := by
  unfold ints_Over.f; rw [ints2]; simp only [Option.bind_some]
  by_cases he : er s = 0
  · by_cases hi : (-top s ≤ a ∧ a ≤ top s) ∧ (-top s ≤ b ∧ b ≤ top s)
    · simp only [if_pos he, if_pos hi]; by_cases hb : b = 0 <;> simp [hb]
    · simp only [if_pos he, if_neg hi]; simp
  · simp only [if_neg he]
theorem mag_is {b : Int} (h : -999999999999999999 ≤ b) (h' : b ≤ 999999999999999999) : ints_magnitude.f b = some (if b < 0 then -b else b) := by
  unfold ints_magnitude.f
  by_cases hb : b < 0
  · rw [if_pos hb, if_pos hb, w64 (by omega) (by omega)]
  · rw [if_neg hb, if_neg hb]
theorem mod_is (s a b : Int) (k : Nat) : ints_Mod.f (k + 3) s a b = some (if er s = 0 then (if (-top s ≤ a ∧ a ≤ top s) ∧ (-top s ≤ b ∧ b ≤ top s) then (if b = 0 then (0, 11) else (Int.tmod (wrap64 (Int.tmod a (if b < 0 then -b else b) + (if b < 0 then -b else b))) (if b < 0 then -b else b), 0)) else (0, 11)) else (0, er s)) := by
  have hb := top_bd s
  unfold ints_Mod.f; rw [ints2]; simp only [Option.bind_some]
  by_cases he : er s = 0
  · by_cases hi : (-top s ≤ a ∧ a ≤ top s) ∧ (-top s ≤ b ∧ b ≤ top s)
    · simp only [if_pos he, if_pos hi]; by_cases hb : b = 0
      · simp [hb]
      · simp only [if_neg hb]
        rw [mag_is (by omega) (by omega)]; simp only [Option.bind_some]
        have hz : ¬ (if b < 0 then -b else b) = 0 := by split <;> omega
        simp only [if_true, if_neg hz]
    · simp only [if_pos he, if_neg hi]; simp
  · simp only [if_neg he]

theorem awake_is : environlaw01_awake.f 40 = some true := by decide +kernel
theorem is_is (s a : Int) (k : Nat) : ints_Is.f (k + 2) s a = some ((if er s = 0 then (if -top s ≤ a ∧ a ≤ top s then (0 : Int) else 11) else er s) == 0) := by
  unfold ints_Is.f; rw [ints1]; rfl
theorem tmod_np {a : Int} (b : Int) (h : a ≤ 0) : Int.tmod a b ≤ 0 := by
  have := Int.tmod_nonneg (a := -a) b (by omega)
  rw [Int.neg_tmod] at this; omega
/-- division: the facts that are wanted -/
theorem tdiv_facts (a b : Int) (hb : b ≠ 0) : ∃ q r : Int, Int.tdiv a b = q ∧ a - q * b = r ∧ Int.tmod a (if b < 0 then -b else b) = r ∧ (if r < 0 then -r else r) < (if b < 0 then -b else b) ∧ (r < 0 → a < 0) ∧ (0 < r → 0 < a) ∧ (q * b).natAbs ≤ a.natAbs ∧ q.natAbs ≤ a.natAbs := by
  refine ⟨Int.tdiv a b, Int.tmod a b, rfl, ?_, ?_, ?_, ?_, ?_, ?_, Int.natAbs_tdiv_le_natAbs a b⟩
  · have := Int.tmod_add_mul_tdiv a b; rw [Int.mul_comm] at this; omega
  · split
    · exact Int.tmod_neg a b
    · rfl
  · have h := Int.natAbs_tmod a b
    have h2 := Nat.mod_lt a.natAbs (show 0 < b.natAbs by omega)
    split <;> split <;> omega
  · intro h; exact Int.not_le.1 fun h' => by have := Int.tmod_nonneg b h'; omega
  · intro h; exact Int.not_le.1 fun h' => by have := tmod_np b h'; omega
  · rw [Int.natAbs_mul, Int.natAbs_tdiv]; exact Nat.div_mul_le_self _ _
theorem er_bd (s : Int) : er s = 0 ∨ er s = 1 := by
  unfold er; repeat' split
  all_goals omega
theorem IntsDivides : environlaw01_IntsDivides.Pure := by
  intro s a b _ _ _
  refine ⟨40, ?_⟩
  unfold environlaw01_IntsDivides.f
  rw [awake_is, over_is s a b 37, mod_is s a b 37]; simp only [Option.bind_some, if_true]
  have ht := top_bd s
  by_cases he : er s = 0
  · by_cases hi : (-top s ≤ a ∧ a ≤ top s) ∧ (-top s ≤ b ∧ b ≤ top s)
    · by_cases h0 : b = 0
      · simp [he, hi, h0]
      · obtain ⟨q, r, hq, hr, hm, hlt, hs1, hs2, hqb, hqa⟩ := tdiv_facts a b h0
        generalize hB : (if b < 0 then -b else b) = B at *
        have hB0 : 0 < B := by rw [← hB]; split <;> omega
        have hB1 : B ≤ 999999999999999999 := by rw [← hB]; split <;> omega
        have hr1 : -B < r ∧ r < B := by split at hlt <;> omega
        have hmx : mx b (wrap64 (-b)) = B := by
          rw [w64 (by omega) (by omega), ← hB]; unfold mx; split <;> split <;> omega
        have hmr : mx r (wrap64 (-r)) = if r < 0 then -r else r := by
          rw [w64 (by omega) (by omega)]; unfold mx; split <;> split <;> omega
        have hw : wrap64 (a - wrap64 (wrap64 q * b)) = r := by
          rw [w64 (n := q) (by omega) (by omega), w64 (n := q * b) (by omega) (by omega), hr, w64 (by omega) (by omega)]
        have hmm : Int.tmod (wrap64 (r + B)) B = if r < 0 then r + B else r := by
          rw [w64 (by omega) (by omega), Int.tmod_eq_emod_of_nonneg (by omega)]
          split
          · exact Int.emod_eq_of_lt (by omega) (by omega)
          · rw [Int.add_emod_right]; exact Int.emod_eq_of_lt (by omega) (by omega)
        simp only [if_pos he, if_pos hi, if_neg h0, hq, hm, hw, hmx, hmr, hmm]
        simp only [if_true, if_pos hlt]
        by_cases hr0 : r = 0
        · subst hr0; simp; omega
        · rw [if_neg hr0]
          have hsg : ((decide (r < 0)) == (decide (a < 0))) = true := by
            rw [beq_iff_eq, decide_eq_decide]; omega
          rw [if_pos hsg]
          by_cases hn : r < 0
          · rw [if_pos hn, if_pos (by omega), if_pos (by omega), if_neg (by omega), w64 (by omega) (by omega)]; simp
          · rw [if_neg hn, if_pos (by omega), if_pos (by omega), if_pos rfl]
    · simp only [if_pos he, if_neg hi]
      rw [is_is s a 38, is_is s b 38]
      simp only [Option.bind_some, if_pos he]
      by_cases h1 : -top s ≤ a ∧ a ≤ top s <;> by_cases h2 : -top s ≤ b ∧ b ≤ top s <;> simp_all
  · have h1 : er s = 1 := by have := er_bd s; omega
    simp [h1]

end Go.Proofs.Ytgifknjcdkhmmaa.Pure
