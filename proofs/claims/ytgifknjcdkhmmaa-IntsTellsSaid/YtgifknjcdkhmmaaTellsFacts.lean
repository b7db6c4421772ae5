import Derived.Test.YtgifknjcdkhmmaaSingle
import Derived.Laws.MathBits
import Derived.Laws.Bits64b
namespace Go.Proofs.Ytgifknjcdkhmmaa.TellsFacts
open Go.RowKit Go.Proofs.Ytgifknjcdkhmmaa.PIntsTells Go.Proofs.YtgifknjcdkhmmaaW.PrintWords Go.Proofs.YtgifknjcdkhmmaaW.PrintLast Go.Proofs.YtgifknjcdkhmmaaW.PrintMore
open Go.Proofs.Ytgifknjcdkhmmaa.Single

/-! the sizes: what is there of a size, and what the guards tell -/
def top (s : Int) : Int := if s = -1 then 32767 else if s = 0 then 2147483647 else if s = 1 then 999999999999999999 else 0
def wid (s : Int) : Int := if s = -1 then 16 else if s = 0 then 32 else if s = 1 then 60 else 0
def er (s : Int) : Int := if s = -1 then 0 else if s = 0 then 0 else if s = 1 then 0 else 1
theorem top_bd (s : Int) : 0 ≤ top s ∧ top s ≤ 999999999999999999 := by
  unfold top; repeat' split
  all_goals omega
theorem of_is (s : Int) : ints_of.f s = some (top s, wid s, er s) := by
  unfold ints_of.f top wid er
  repeat' split
  all_goals first | rfl | omega
theorem w64 {n : Int} (h : -9223372036854775808 ≤ n) (h' : n ≤ 9223372036854775807) : wrap64 n = n := by
  unfold wrap64; omega
theorem has_is {M W n : Int} (h0 : 0 ≤ M) (h1 : M ≤ 999999999999999999) : ints_length_has.f M W n = some (decide (-M ≤ n ∧ n ≤ M)) := by
  unfold ints_length_has.f
  rw [w64 (by omega) (by omega)]
  by_cases h : -M ≤ n
  · rw [if_pos h]; congr 1; rw [decide_eq_decide]; exact ⟨fun x => ⟨h, x⟩, fun x => x.2⟩
  · rw [if_neg h]; congr 1; symm; rw [decide_eq_false_iff_not]; exact fun x => h x.1
/-- the error of a list of integers -/
def erI (s : Int) : List Int → Int
  | [] => er s
  | a :: l => if er s ≠ 0 then er s else if -top s ≤ a ∧ a ≤ top s then erI s l else 11
theorem ints1 (s a : Int) (k : Nat) : ints_ints.f (k + 2) s [a] = some (top s, wid s, if er s = 0 then (if -top s ≤ a ∧ a ≤ top s then 0 else 11) else er s) := by
  have hb := top_bd s
  unfold ints_ints.f; rw [of_is]; simp only [Option.bind_some]
  simp only [ints_ints.l0, List.length_singleton]
  rw [if_pos (by decide), if_pos (by decide), if_pos (by decide)]
  have e1 : wrap64 (0 + 1) = 1 := w64 (by omega) (by omega)
  have hr : rd [a] 0 = a := rfl
  rw [e1, hr, has_is hb.1 hb.2]; simp only [Option.bind_some]
  by_cases he : er s = 0
  · by_cases hi : -top s ≤ a ∧ a ≤ top s <;> simp [he, hi]
  · simp [he]
theorem ints2 (s a b : Int) (k : Nat) : ints_ints.f (k + 3) s [a, b] = some (top s, wid s, if er s = 0 then (if (-top s ≤ a ∧ a ≤ top s) ∧ (-top s ≤ b ∧ b ≤ top s) then 0 else 11) else er s) := by
  have hb := top_bd s
  unfold ints_ints.f; rw [of_is]; simp only [Option.bind_some]
  have e1 : wrap64 (0 + 1) = 1 := w64 (by omega) (by omega)
  have e2 : wrap64 (1 + 1) = 2 := w64 (by omega) (by omega)
  have hr : rd [a, b] 0 = a := rfl
  have hr' : rd [a, b] 1 = b := rfl
  have hl : (([a, b] : List Int).length : Int) = 2 := rfl
  simp only [ints_ints.l0, hl]
  rw [if_pos (show (0 : Int) < 2 by decide), if_pos (show (0 : Int) ≤ 0 by decide), e1, e2, hr, hr', has_is hb.1 hb.2, has_is hb.1 hb.2]
  rw [if_pos (show (1 : Int) < 2 by decide), if_neg (show ¬ (2 : Int) < 2 by decide), if_pos (show (0 : Int) ≤ 1 by decide)]
  simp only [Option.bind_some, decide_eq_true_iff]
  by_cases he : er s = 0
  · rw [he]
    by_cases hi : -top s ≤ a ∧ a ≤ top s <;> by_cases hj : -top s ≤ b ∧ b ≤ top s <;> simp [hi, hj]
  · simp [he]

theorem er_bd (s : Int) : er s = 0 ∨ er s = 1 := by
  unfold er; repeat' split
  all_goals omega
/-- what an operation on two integers answers: the error of the size, that of the integers, else x -/
def gd (s : Int) (p : Prop) [Decidable p] (x : Int × Int) : Int × Int := if er s = 0 then (if p then x else (0, 11)) else (0, er s)
/-- a result that must be an integer of the size -/
def inn (s n : Int) : Int × Int := if -top s ≤ n ∧ n ≤ top s then (n, 0) else (0, 11)

theorem mag_is' {a : Int} (h : -999999999999999999 ≤ a) (h' : a ≤ 999999999999999999) : ints_magnitude.f a = some (a.natAbs : Int) := by
  unfold ints_magnitude.f
  by_cases hb : a < 0
  · rw [if_pos hb, w64 (by omega) (by omega)]; congr 1; omega
  · rw [if_neg hb]; congr 1; omega

/-- the number of bits, as a natural number -/
def wd (s : Int) : Nat := if s = -1 then 16 else if s = 0 then 32 else if s = 1 then 60 else 0
theorem wid_wd (s : Int) : wid s = (wd s : Int) := by
  unfold wid wd; repeat' split
  all_goals rfl
theorem wd_le (s : Int) : wd s ≤ 60 := by
  unfold wd; repeat' split
  all_goals omega
theorem wd_pos {s : Int} (h : er s = 0) : 1 ≤ wd s := by
  revert h; unfold wd er; repeat' split
  all_goals omega
theorem p60 {W : Nat} (h : W ≤ 60) : 2 ^ W ≤ 1152921504606846976 := Nat.le_trans (Nat.pow_le_pow_right (by decide) h) (by decide)
theorem cast_p (W : Nat) : ((2 : Int) ^ W) = ((2 ^ W : Nat) : Int) := by rw [Int.natCast_pow]; rfl
/-- how many words there are of a size -/
def fl (s : Int) : Nat := 2 ^ wd s
theorem fl_bd (s : Int) : 1 ≤ fl s ∧ fl s ≤ 1152921504606846976 := ⟨Nat.two_pow_pos _, p60 (wd_le s)⟩
/-- a word of a size -/
def isw (s w : Int) : Prop := 0 ≤ w ∧ w < (fl s : Int)
instance (s w : Int) : Decidable (isw s w) := inferInstanceAs (Decidable (_ ∧ _))
theorem isw_nat {s w : Int} (h : isw s w) : ∃ x : Nat, w = x ∧ x < fl s := by
  obtain ⟨x, rfl⟩ := Int.eq_ofNat_of_zero_le h.1
  exact ⟨x, rfl, by have := h.2; omega⟩
theorem isw_zero (s : Int) : isw s 0 := ⟨Int.le_refl _, by have := fl_bd s; omega⟩
theorem i64_id {n : Int} (h : -9223372036854775808 ≤ n) (h' : n ≤ 9223372036854775807) : IntKind.i64.wrap n = n := by
  rw [IntKind.wrap_i64]; omega
theorem i64_nat {n : Nat} (h : n ≤ 9223372036854775807) : IntKind.i64.wrap (n : Int) = n := i64_id (by omega) (by omega)
theorem shl1 (s : Int) : shl .i64 1 (wd s : Int) = (fl s : Int) := by
  have h := wd_le s
  unfold shl
  have e : min (wd s : Int).toNat IntKind.i64.bits = wd s := by
    rw [Int.toNat_natCast]; simp [IntKind.bits]; omega
  rw [e, cast_p, Int.one_mul]
  exact i64_nat (by have := fl_bd s; unfold fl at this; omega)
theorem shr_nat (x m : Nat) (h : m ≤ 64) : shr .i64 (x : Int) (m : Int) = ((x / 2 ^ m : Nat) : Int) := by
  unfold shr
  have e : min (m : Int).toNat IntKind.i64.bits = m := by
    rw [Int.toNat_natCast]; simp [IntKind.bits]; omega
  rw [e, cast_p]; rfl
theorem hasw_is (M s w : Int) : ints_length_hasWord.f M (wid s) w = some (decide (isw s w)) := by
  unfold ints_length_hasWord.f
  rw [wid_wd]
  by_cases h : w ≥ 0
  · rw [if_pos h, if_pos (by omega), shl1 s]; congr 1; rw [decide_eq_decide]; exact ⟨fun x => ⟨h, x⟩, fun x => x.2⟩
  · rw [if_neg h]; congr 1; symm; rw [decide_eq_false_iff_not]; exact fun x => h x.1
theorem words1 (s a : Int) (k : Nat) : ints_words.f (k + 2) s [a] = some (top s, wid s, if er s = 0 then (if isw s a then 0 else 11) else er s) := by
  unfold ints_words.f; rw [of_is]; simp only [Option.bind_some]
  simp only [ints_words.l0, List.length_singleton]
  rw [if_pos (by decide), if_pos (by decide), if_pos (by decide)]
  have e1 : wrap64 (0 + 1) = 1 := w64 (by omega) (by omega)
  have hr : rd [a] 0 = a := rfl
  rw [e1, hr, hasw_is]; simp only [Option.bind_some]
  by_cases he : er s = 0
  · by_cases hi : isw s a <;> simp [he, hi]
  · simp [he]

theorem rwidth_is (s : Int) : environref01_Width.f s = some ((wd s : Int), er s) := by
  unfold environref01_Width.f wd er
  repeat' split
  all_goals first | rfl | omega
theorem shr_wd {s : Int} {x : Nat} : (shr .i64 (x : Int) (wd s : Int) == 0) = decide (x < fl s) := by
  rw [shr_nat _ _ (by have := wd_le s; omega), Bool.eq_iff_iff, beq_iff_eq, decide_eq_true_iff]
  have hp := Nat.two_pow_pos (wd s)
  unfold fl
  constructor
  · intro h
    have h' : x / 2 ^ wd s = 0 := by omega
    rcases Nat.div_eq_zero_iff.1 h' with h'' | h''
    · omega
    · exact h''
  · intro h; rw [Nat.div_eq_of_lt h]; rfl
theorem risw_is (s w : Int) : environref01_IsWord.f s w = some (decide (er s = 0 ∧ isw s w)) := by
  unfold environref01_IsWord.f; rw [rwidth_is]; simp only [Option.bind_some]
  by_cases he : er s = 0
  · rw [if_pos he]
    by_cases h : w ≥ 0
    · rw [if_pos h, if_pos (by omega)]
      obtain ⟨x, rfl⟩ := Int.eq_ofNat_of_zero_le h
      rw [shr_wd]; congr 1; rw [decide_eq_decide]; unfold isw; omega
    · rw [if_neg h]; congr 1; symm; rw [decide_eq_false_iff_not]; exact fun x => h x.2.1
  · rw [if_neg he]; congr 1; symm; rw [decide_eq_false_iff_not]; exact fun x => he x.1

theorem rmax_is (s : Int) : environref01_Max.f s = some (top s, er s) := by
  unfold environref01_Max.f top er
  repeat' split
  all_goals first | rfl | omega
theorem ris_is (s a : Int) : environref01_Is.f s a = some (decide (er s = 0 ∧ (-top s ≤ a ∧ a ≤ top s))) := by
  have hb := top_bd s
  unfold environref01_Is.f; rw [rmax_is]; simp only [Option.bind_some]
  by_cases he : er s = 0
  · rw [if_pos he, w64 (by omega) (by omega)]
    by_cases h : a ≥ -top s
    · rw [if_pos h]; congr 1; rw [decide_eq_decide]; exact ⟨fun x => ⟨he, h, x⟩, fun x => x.2.2⟩
    · rw [if_neg h]; congr 1; symm; rw [decide_eq_false_iff_not]; exact fun x => h x.2.1
  · rw [if_neg he]; congr 1; symm; rw [decide_eq_false_iff_not]; exact fun x => he x.1
theorem right_is (s a b : Int) : environref01_right.f s a b = some (if er s = 0 then (if (-top s ≤ a ∧ a ≤ top s) ∧ (-top s ≤ b ∧ b ≤ top s) then 0 else 11) else er s) := by
  unfold environref01_right.f; rw [rmax_is]; simp only [Option.bind_some]; rw [ris_is, ris_is]; simp only [Option.bind_some]
  by_cases he : er s = 0
  · by_cases hi : -top s ≤ a ∧ a ≤ top s <;> by_cases hj : -top s ≤ b ∧ b ≤ top s <;> simp [he, hi, hj]
  · simp [he]
theorem zero_in (s : Int) : -top s ≤ 0 ∧ 0 ≤ top s := by have := top_bd s; omega
theorem er_next (s : Int) : er s = 0 → s ≤ 1 ∧ -1 ≤ s := by
  unfold er; repeat' split
  all_goals omega
theorem er_01 (s : Int) : er s = 0 ∨ er s = 1 := by
  unfold er; repeat' split
  all_goals omega
theorem next_up (s : Int) : ∃ y, ints_next.f s 1 = some (y, if er s = 0 then (if s = 1 then 1 else 0) else er s) := by
  unfold ints_next.f; rw [of_is]; simp only [Option.bind_some]
  by_cases he : er s = 0
  · have := er_next s he
    rw [if_pos he, of_is, w64 (by omega) (by omega)]; simp only [Option.bind_some]
    refine ⟨s + 1, ?_⟩
    congr 2
    rw [if_pos he]; unfold er; repeat' split
    all_goals omega
  · exact ⟨0, by rw [if_neg he, if_neg he]⟩
theorem next_down (s : Int) : ∃ y, (er s = 0 → y = s - 1) ∧ ints_next.f s (-1) = some (y, if er s = 0 then (if s = -1 then 1 else 0) else er s) := by
  unfold ints_next.f; rw [of_is]; simp only [Option.bind_some]
  by_cases he : er s = 0
  · have := er_next s he
    rw [if_pos he, of_is, w64 (by omega) (by omega)]; simp only [Option.bind_some]
    refine ⟨s + -1, fun _ => by omega, ?_⟩
    congr 2
    rw [if_pos he]; unfold er; repeat' split
    all_goals omega
  · exact ⟨0, fun h => absurd h he, by rw [if_neg he, if_neg he]⟩
theorem isword_is (s w : Int) (k : Nat) : ints_IsWord.f (k + 2) s w = some (decide (er s = 0 ∧ isw s w)) := by
  unfold ints_IsWord.f; rw [words1]; simp only [Option.bind_some]; congr 1
  by_cases he : er s = 0
  · by_cases hi : isw s w <;> simp [he, hi]
  · simp [he]
theorem er_pred {s : Int} (h : er s = 0) (h1 : ¬ s = -1) : er (s - 1) = 0 := by
  have := er_next s h
  unfold er; repeat' split
  all_goals omega

/-- what single answers -/
theorem single_ret (F : Nat) (s a y : Int) (hy : er s = 0 → -top s ≤ a ∧ a ≤ top s → Ret F #[.int .i64 a] (.int .i64 y))
    (yes : ∀ M W er0 : Int, ∀ k w, ints_ints.f k s [a] = some (M, W, er0) → (er0 != 0) = false → Ret F #[.int .i64 a] (.int .i64 y) → Calls Try.prog 72 #[.int .i64 s, .int .i64 a, .func (Fn.func F) #[] #[]] w fun e w' => e = .returned (.tuple #[.int .i64 y, .int .i64 0]) ∧ Below w.heap.size w w') :
    ∃ x e, gd s (-top s ≤ a ∧ a ≤ top s) (y, 0) = (x, e) ∧ Ret 72 #[.int .i64 s, .int .i64 a, .func (Fn.func F) #[] #[]] (.tuple #[.int .i64 x, .int .i64 e]) := by
  have h1 := ints1 s a 0
  unfold gd
  by_cases he : er s = 0
  · by_cases hi : -top s ≤ a ∧ a ≤ top s
    · rw [if_pos he, if_pos hi] at h1
      exact ⟨y, 0, by rw [if_pos he, if_pos hi], fun w => yes _ _ _ _ w h1 rfl (hy he hi)⟩
    · rw [if_pos he, if_neg hi] at h1
      exact ⟨0, 11, by rw [if_pos he, if_neg hi], fun w => single_no F s a _ _ _ _ w h1 rfl⟩
  · rw [if_neg he] at h1
    exact ⟨0, er s, by rw [if_neg he], fun w => single_no F s a _ _ _ _ w h1 (by simpa using he)⟩
theorem neg_fn {a : Int} (h : -999999999999999999 ≤ a) (h' : a ≤ 999999999999999999) : Ret 74 #[.int .i64 a] (.int .i64 (-a)) := by
  intro w
  go_enter Try.func74, Try.ntmps74
  go_wp2
  go_ret
  exact ⟨rfl, Below.refl _ _⟩
theorem same_fn (a : Int) : Ret 77 #[.int .i64 a] (.int .i64 a) := by
  intro w
  go_enter Try.func77, Try.ntmps77
  go_wp2
  go_ret
  exact ⟨rfl, Below.refl _ _⟩
theorem odd_fn (a : Int) : Ret 73 #[.int .i64 a] (.int .i64 (Go.bits .and .i64 a 1)) := by
  intro w
  go_enter Try.func73, Try.ntmps73
  go_wp2
  go_ret
  exact ⟨rfl, Below.refl _ _⟩
def sg (a : Int) : Int := if a < 0 then -1 else if a > 0 then 1 else 0
theorem sign_fn (a : Int) : Ret 75 #[.int .i64 a] (.int .i64 (sg a)) := by
  intro w
  unfold sg
  by_cases h1 : a < 0
  · rw [if_pos h1]
    go_enter Try.func75, Try.ntmps75
    go_wp2
    go_ret
    exact ⟨rfl, Below.refl _ _⟩
  · rw [if_neg h1]
    by_cases h2 : a > 0
    · rw [if_pos h2]
      go_enter Try.func75, Try.ntmps75
      go_wp2
      go_ret
      exact ⟨rfl, Below.refl _ _⟩
    · rw [if_neg h2]
      go_enter Try.func75, Try.ntmps75
      go_wp2
      go_ret
      exact ⟨rfl, Below.refl _ _⟩
theorem pass (F f : Nat) (s a x e : Int) (hf : f = 38 ∧ F = 74 ∨ f = 40 ∧ F = 62 ∨ f = 42 ∧ F = 75) (h : Ret 72 #[.int .i64 s, .int .i64 a, .func (Fn.func F) #[] #[]] (.tuple #[.int .i64 x, .int .i64 e])) :
    Ret f #[.int .i64 s, .int .i64 a] (.tuple #[.int .i64 x, .int .i64 e]) := by
  rcases hf with ⟨rfl, rfl⟩ | ⟨rfl, rfl⟩ | ⟨rfl, rfl⟩ <;> intro w
  · go_enter Try.func38, Try.ntmps38
    go_wp2_with fail
    refine (h _).mono ?_
    rintro e w2 ⟨rfl, hb⟩; have HB := Aside0.mk hb; clear hb
    go_wp2_with fail
    go_ret2
    exact ⟨rfl, HB.out⟩
  · go_enter Try.func40, Try.ntmps40
    go_wp2_with fail
    refine (h _).mono ?_
    rintro e w2 ⟨rfl, hb⟩; have HB := Aside0.mk hb; clear hb
    go_wp2_with fail
    go_ret2
    exact ⟨rfl, HB.out⟩
  · go_enter Try.func42, Try.ntmps42
    go_wp2_with fail
    refine (h _).mono ?_
    rintro e w2 ⟨rfl, hb⟩; have HB := Aside0.mk hb; clear hb
    go_wp2_with fail
    go_ret2
    exact ⟨rfl, HB.out⟩
theorem odd_ret (s a x e : Int) (b : Bool) (hb0 : (x == 1) = b) (h : Ret 72 #[.int .i64 s, .int .i64 a, .func (Fn.func 73) #[] #[]] (.tuple #[.int .i64 x, .int .i64 e])) :
    Ret 36 #[.int .i64 s, .int .i64 a] (.tuple #[.bool b, .int .i64 e]) := by
  intro w
  go_enter Try.func36, Try.ntmps36
  go_wp2_with fail
  refine (h _).mono ?_
  rintro e w2 ⟨rfl, hb⟩; have HB := Aside0.mk hb; clear hb
  go_wp2_with fail
  go_ret2
  exact ⟨rfl, HB.out⟩
theorem leng_no (s a y e : Int) (he : (e != 0) = true) (h : Ret 76 #[.int .i64 s, .int .i64 1] (.tuple #[.int .i64 y, .int .i64 e])) : Ret 44 #[.int .i64 s, .int .i64 a] (.tuple #[.int .i64 0, .int .i64 e]) := by
  intro w
  go_enter Try.func44, Try.ntmps44
  go_wp2_with fail
  refine (h _).mono ?_
  rintro e w2 ⟨rfl, hb⟩; have HB := Aside0.mk hb; clear hb
  go_wp2_with fail
  go_ret2
  exact ⟨rfl, HB.out⟩
theorem leng_yes (s a y e x e2 : Int) (he : (e != 0) = false) (h : Ret 76 #[.int .i64 s, .int .i64 1] (.tuple #[.int .i64 y, .int .i64 e])) (h2 : Ret 72 #[.int .i64 s, .int .i64 a, .func (Fn.func 77) #[] #[]] (.tuple #[.int .i64 x, .int .i64 e2])) : Ret 44 #[.int .i64 s, .int .i64 a] (.tuple #[.int .i64 x, .int .i64 e2]) := by
  intro w
  go_enter Try.func44, Try.ntmps44
  go_wp2_with fail
  refine (h _).mono ?_
  rintro e w2 ⟨rfl, hb⟩; have HB := Aside0.mk hb; clear hb
  go_wp2_with fail
  refine (h2 _).mono ?_
  rintro e w3 ⟨rfl, hb⟩; have HB' := Aside0.mk (below_step HB.out hb); clear HB; have HB := HB'; clear HB' hb
  go_wp2_with fail
  go_ret2
  exact ⟨rfl, HB.out⟩

theorem in_is (s n : Int) : ints_in.f (decide (-top s ≤ n ∧ n ≤ top s)) n = some (inn s n) := by
  unfold ints_in.f inn
  by_cases h : -top s ≤ n ∧ n ≤ top s <;> simp [h]
theorem within_is {s n : Int} (he : er s = 0) : environref01_within.f s n = some (inn s n) := by
  unfold environref01_within.f inn; rw [ris_is]; simp only [Option.bind_some]
  by_cases h : -top s ≤ n ∧ n ≤ top s <;> simp [h, he]
theorem rsub_is (s a b : Int) : environref01_Sub.f s a b = some (gd s ((-top s ≤ a ∧ a ≤ top s) ∧ (-top s ≤ b ∧ b ≤ top s)) (inn s (a - b))) := by
  have hb := top_bd s
  unfold environref01_Sub.f gd; rw [right_is]; simp only [Option.bind_some]
  by_cases he : er s = 0
  · by_cases hi : (-top s ≤ a ∧ a ≤ top s) ∧ (-top s ≤ b ∧ b ≤ top s)
    · simp only [if_pos he, if_pos hi, if_true]; rw [w64 (by omega) (by omega), within_is he]; rfl
    · simp only [if_pos he, if_neg hi]; simp
  · simp only [if_neg he]
theorem rneg_is (s a : Int) : environref01_Neg.f s a = some (gd s (-top s ≤ a ∧ a ≤ top s) (-a, 0)) := by
  unfold environref01_Neg.f; rw [rsub_is]; simp only [Option.bind_some]
  congr 1
  unfold gd inn
  by_cases he : er s = 0
  · by_cases hi : -top s ≤ a ∧ a ≤ top s
    · rw [if_pos he, if_pos he, if_pos hi, if_pos ⟨zero_in s, hi⟩, if_pos (by omega), Int.zero_sub]
    · rw [if_pos he, if_pos he, if_neg hi, if_neg (fun h => hi h.2)]
  · rw [if_neg he, if_neg he]
theorem right0 (s a : Int) : environref01_right.f s a 0 = some (if er s = 0 then (if -top s ≤ a ∧ a ≤ top s then 0 else 11) else er s) := by
  rw [right_is]; have := zero_in s
  by_cases hi : -top s ≤ a ∧ a ≤ top s <;> simp [hi, this]
theorem rabs_is (s a : Int) : environref01_Abs.f s a = some (gd s (-top s ≤ a ∧ a ≤ top s) ((a.natAbs : Int), 0)) := by
  have hb := top_bd s
  unfold environref01_Abs.f gd; rw [right0]; simp only [Option.bind_some]
  by_cases he : er s = 0
  · by_cases hi : -top s ≤ a ∧ a ≤ top s
    · simp only [if_pos he, if_pos hi, if_true]
      unfold environref01_abs.f
      by_cases hn : a < 0
      · rw [if_pos hn, w64 (by omega) (by omega)]; simp only [Option.bind_some]; congr 2; omega
      · rw [if_neg hn]; simp only [Option.bind_some]; congr 2; omega
    · simp only [if_pos he, if_neg hi]; simp
  · simp only [if_neg he]
theorem rsign_is (s a : Int) : environref01_Sign.f s a = some (gd s (-top s ≤ a ∧ a ≤ top s) (sg a, 0)) := by
  unfold environref01_Sign.f gd sg; rw [right0]; simp only [Option.bind_some]
  by_cases he : er s = 0
  · by_cases hi : -top s ≤ a ∧ a ≤ top s
    · simp only [if_pos he, if_pos hi, if_true]
      by_cases h1 : a < 0
      · rw [if_pos h1, if_pos h1]
      · rw [if_neg h1, if_neg h1]; by_cases h2 : a > 0
        · rw [if_pos h2, if_pos h2]
        · rw [if_neg h2, if_neg h2]
    · simp only [if_pos he, if_neg hi]; simp
  · simp only [if_neg he]
theorem bit1 (n : Int) : Go.bits .and .i64 n 1 = n % 2 := by
  have e : (BitVec.ofInt 64 n &&& BitVec.ofInt 64 1).toNat = (BitVec.ofInt 64 n).toNat % 2 := by
    rw [BitVec.toNat_and]; show (BitVec.ofInt 64 n).toNat &&& 1 = _; exact Nat.and_one_is_mod _
  show IntKind.i64.wrap ((BitVec.ofInt 64 n &&& BitVec.ofInt 64 1).toNat : Int) = n % 2
  rw [e, BitVec.toNat_ofInt, IntKind.wrap_i64]
  omega
theorem odd_same (a : Int) : (Int.tmod a 2 != 0) = (a % 2 == 1) := by
  have h1 : (Int.tmod a 2).natAbs = a.natAbs % 2 := Int.natAbs_tmod a 2
  generalize Int.tmod a 2 = t at *
  rw [Bool.eq_iff_iff, bne_iff_ne, beq_iff_eq]
  omega
def oddS (s a : Int) : Bool × Int := if er s = 0 then (if -top s ≤ a ∧ a ≤ top s then (a % 2 == 1, 0) else (false, 11)) else (false, er s)
theorem rodd_is (s a : Int) : environref01_Odd.f s a = some (oddS s a) := by
  unfold environref01_Odd.f oddS; rw [right0]; simp only [Option.bind_some]
  by_cases he : er s = 0
  · by_cases hi : -top s ≤ a ∧ a ≤ top s
    · simp only [if_pos he, if_pos hi, if_true]; rw [odd_same]
    · simp only [if_pos he, if_neg hi]; simp
  · simp only [if_neg he]
def lengS (s a : Int) : Int × Int := if er s = 0 then (if s = 1 then (0, 1) else if -top s ≤ a ∧ a ≤ top s then (a, 0) else (0, 11)) else (0, er s)
theorem rleng_is (s a : Int) : environref01_Leng.f s a = some (lengS s a) := by
  unfold environref01_Leng.f lengS; rw [right0]; simp only [Option.bind_some]
  by_cases h1 : s = 1
  · subst h1; simp [er]
  · rw [if_neg h1]
    by_cases he : er s = 0
    · by_cases hi : -top s ≤ a ∧ a ≤ top s
      · simp only [if_pos he, if_pos hi, if_true, if_neg h1]
      · simp only [if_pos he, hi, if_neg h1]; simp
    · simp only [if_neg he]
def shortS (s a : Int) : Int × Int := if er s = 0 then (if s = -1 then (0, 1) else if -top s ≤ a ∧ a ≤ top s then inn (s - 1) a else (0, 11)) else (0, er s)
theorem is_is (s a : Int) (k : Nat) : ints_Is.f (k + 2) s a = some (decide (er s = 0 ∧ (-top s ≤ a ∧ a ≤ top s))) := by
  unfold ints_Is.f; rw [ints1]; simp only [Option.bind_some]; congr 1
  by_cases he : er s = 0
  · by_cases hi : -top s ≤ a ∧ a ≤ top s <;> simp [he, hi]
  · simp [he]
theorem short_is (s a : Int) (k : Nat) : ints_Shorten.f (k + 2) s a = some (shortS s a) := by
  obtain ⟨y, hy0, hy⟩ := next_down s
  unfold ints_Shorten.f shortS; rw [hy]; simp only [Option.bind_some]
  by_cases he : er s = 0
  · by_cases h1 : s = -1
    · simp only [if_pos he, if_pos h1]; simp
    · simp only [if_pos he, if_neg h1, if_true]; rw [ints1]; simp only [Option.bind_some, if_pos he]
      rw [hy0 he, is_is]; simp only [Option.bind_some]
      by_cases hi : -top s ≤ a ∧ a ≤ top s
      · simp only [if_pos hi, if_true]
        have hd : decide (er (s - 1) = 0 ∧ (-top (s - 1) ≤ a ∧ a ≤ top (s - 1))) = decide (-top (s - 1) ≤ a ∧ a ≤ top (s - 1)) := by
          rw [decide_eq_decide]; exact ⟨fun h => h.2, fun h => ⟨er_pred he h1, h⟩⟩
        rw [hd, in_is]; rfl
      · simp [hi]
  · simp only [if_neg he]
theorem rshort_is (s a : Int) (h0 : -9223372036854775808 ≤ s) (h00 : s ≤ 9223372036854775807) : environref01_Shorten.f s a = some (shortS s a) := by
  unfold environref01_Shorten.f shortS; rw [right0]; simp only [Option.bind_some]
  by_cases h1 : s = -1
  · subst h1; simp [er]
  · rw [if_neg h1]
    by_cases he : er s = 0
    · have := er_next s he
      by_cases hi : -top s ≤ a ∧ a ≤ top s
      · simp only [if_pos he, if_pos hi, if_true, if_neg h1]
        rw [w64 (by omega) (by omega), within_is (er_pred he h1)]; rfl
      · simp only [if_pos he, hi, if_neg h1]; simp
    · simp only [if_neg he]
theorem max_is (s : Int) : ints_Max.f s = some (top s, er s) := by unfold ints_Max.f; rw [of_is]; rfl
theorem width_is (s : Int) : ints_Width.f s = some ((wd s : Int), er s) := by unfold ints_Width.f; rw [of_is]; simp only [Option.bind_some]; rw [wid_wd]

end Go.Proofs.Ytgifknjcdkhmmaa.TellsFacts
