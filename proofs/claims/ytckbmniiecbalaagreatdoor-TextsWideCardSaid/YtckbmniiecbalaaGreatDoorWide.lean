import Derived.Test.YtckbmniiecbalaaGreatDoorPTgTj
import Derived.Test.YtckbmniiecbalaaGreatDoorPTgTc
import Derived.Test.YtckbmniiecbalaaGreatDoorPTgTd
namespace Go.Proofs.YtckbmniiecbalaaGreatDoor.PT
open Go.RowKit Go.Proofs.YtckbmniiecbalaaGreatDoorW.PrintWords Go.Proofs.YtckbmniiecbalaaGreatDoorW.PrintLast Go.Proofs.YtckbmniiecbalaaGreatDoorW.PrintMore
set_option linter.unusedVariables false
set_option linter.unusedSimpArgs false
/-! texts: what the program writes, as lists of bytes -/
theorem dd_range (u : Nat) : ∀ c ∈ Lib.decDigits u, 48 ≤ c.toNat ∧ c.toNat ≤ 57 := by
  induction u using Nat.strongRecOn with
  | ind u ih =>
    intro c hc
    rw [Lib.decDigits] at hc
    split at hc
    · rename_i h
      rw [List.mem_singleton] at hc; subst hc
      rw [UInt8.toNat_ofNat', Nat.mod_eq_of_lt (by omega)]; omega
    · rename_i h
      rcases List.mem_append.1 hc with hc | hc
      · exact ih (u / 10) (by omega) c hc
      · rw [List.mem_singleton] at hc; subst hc
        rw [UInt8.toNat_ofNat', Nat.mod_eq_of_lt (by omega)]; omega
theorem dd_ne (u : Nat) : Lib.decDigits u ≠ [] := by
  rw [Lib.decDigits]; split <;> simp
theorem dd_len (u : Nat) : ∀ k : Nat, u < 10 ^ (k + 1) → (Lib.decDigits u).length ≤ k + 1 := by
  intro k
  induction k generalizing u with
  | zero => intro h; rw [Lib.decDigits, dif_pos (by omega)]; simp
  | succ k ih =>
    intro h
    rw [Lib.decDigits]
    split
    · simp
    · rw [List.length_append, List.length_singleton]
      have := ih (u / 10) (by rw [Nat.pow_succ] at h; omega)
      omega
/-- the first digit of a number that is not 0 -/
theorem dd_head {u : Nat} (h : u ≠ 0) : ∃ c r, Lib.decDigits u = c :: r ∧ 49 ≤ c.toNat := by
  induction u using Nat.strongRecOn with
  | ind u ih =>
    rw [Lib.decDigits]
    split
    · exact ⟨_, [], rfl, by rw [UInt8.toNat_ofNat', Nat.mod_eq_of_lt (by omega)]; omega⟩
    · obtain ⟨c, r, e, hc⟩ := ih (u / 10) (by omega) (by omega)
      exact ⟨c, r ++ [_], by rw [e]; rfl, hc⟩
def I64t (n : Int) : Prop := -9223372036854775808 ≤ n ∧ n ≤ 9223372036854775807
theorem t64 {n : Int} (h : -9223372036854775808 ≤ n) (h' : n ≤ 9223372036854775807) : wrap64 n = n := by unfold wrap64; omega
/-- the bytes of a text -/
def B (l : List UInt8) : ByteArray := ⟨l.toArray⟩
theorem B_list (l : List UInt8) : (B l).data.toList = l := rfl
theorem B_size (l : List UInt8) : (B l).size = l.length := by show l.toArray.size = _; simp
theorem B_of (s : ByteArray) : s = B s.data.toList := rfl
theorem B_app (l r : List UInt8) : B l ++ B r = B (l ++ r) := by
  apply ByteArray.ext; rw [ByteArray.data_append]; simp [B]
theorem B_inj {l r : List UInt8} (h : B l = B r) : l = r := by
  have := congrArg (fun s : ByteArray => s.data.toList) h; exact this
theorem B_toList (l : List UInt8) : (B l).toList = l := by rw [ByteArray.toList_eq]; rfl
theorem rep_is (l : List UInt8) (n : Nat) : Lib.repeatL l n = (List.replicate n l).flatten := by
  induction n with
  | zero => rfl
  | succ n ih => rw [Lib.repeatL, List.replicate_succ, List.flatten_cons, ih]
theorem rep1 (c : UInt8) (n : Nat) : Lib.repeatL [c] n = List.replicate n c := by
  induction n with
  | zero => rfl
  | succ n ih => rw [Lib.repeatL, ih, List.replicate_succ]; rfl
theorem repeat_is (c : UInt8) {n : Int} (h0 : 0 ≤ n) (h1 : n ≤ 1000000) : strings_Repeat.f (⟨#[c]⟩ : ByteArray) n = some (B (List.replicate n.toNat c)) := by
  unfold strings_Repeat.f
  have hs : (⟨#[c]⟩ : ByteArray).size = 1 := rfl
  rw [if_pos ⟨h0, by omega, by rw [hs]; omega⟩]
  congr 1
  show B (Lib.repeatL [c] n.toNat) = _
  rw [rep1]
theorem stars_is {w : Int} (h0 : -1000 ≤ w) (h1 : w ≤ 1000) : texts_stars.f w = some (B (List.replicate (max w.natAbs 1) 42)) := by
  unfold texts_stars.f
  rw [t64 (by omega) (by omega), repeat_is 42 (by unfold mx; split <;> split <;> omega) (by unfold mx; split <;> split <;> omega)]
  simp only [Option.bind_some]
  congr 3
  unfold mx; split <;> split <;> omega
theorem magnitude_is {n : Int} (h : I64t n) : texts_magnitude.f n = some (B (Lib.decDigits n.natAbs)) := by
  unfold texts_magnitude.f strconv_FormatInt_72.f
  rw [if_pos ⟨h.1, h.2, rfl⟩]
  simp only [Option.bind_some]
  unfold strings_TrimPrefix.f
  simp only [Option.bind_some]
  congr 1
  show B (Lib.trimPrefix (Lib.itoa n) [45]) = _
  congr 1
  unfold Lib.trimPrefix Lib.hasPrefix Lib.itoa
  by_cases hn : n < 0
  · rw [if_pos hn]; simp
  · rw [if_neg hn]
    have hd := dd_range n.toNat
    have hne := dd_ne n.toNat
    rw [show n.natAbs = n.toNat by omega]
    cases hl : Lib.decDigits n.toNat with
    | nil => exact absurd hl hne
    | cons c r =>
      have hc := hd c (by rw [hl]; exact List.mem_cons_self ..)
      have : ([45] : List UInt8).isPrefixOf (c :: r) = false := by
        simp [List.isPrefixOf]; intro e; rw [← e] at hc; exact absurd hc.1 (by decide)
      rw [this]; simp
/-- a text that begins with no blank and has no star -/
structure Fine (l : List UInt8) : Prop where
  ne : l ≠ []
  star : ∀ c ∈ l, c ≠ 42
  head : ∀ c r, l = c :: r → c ≠ 32
/-- what the law asks of a text -/
def Good (w : Int) (l : List UInt8) : Prop := (l = List.replicate (max w.natAbs 1) 42) ∨ (l = [42]) ∨ (l ≠ [] ∧ (∀ c ∈ l, c ≠ 42) ∧ (w = 0 → ∀ c r, l = c :: r → c ≠ 32) ∧ (w ≠ 0 → l.length = w.natAbs))
theorem filled_is {w : Int} (h0 : -1000 ≤ w) (h1 : w ≤ 1000) {l : List UInt8} (hl : Fine l) (hs : l.length ≤ 1000000) :
    (∃ u, texts_filled.f (B l) w = some (B u, true) ∧ Good w u) ∨ (texts_filled.f (B l) w = some (B [], false) ∧ w ≠ 0) := by
  unfold texts_filled.f
  by_cases hw : w = 0
  · rw [if_pos hw]
    exact .inl ⟨l, rfl, .inr (.inr ⟨hl.ne, hl.star, fun _ => hl.head, fun h => absurd hw h⟩)⟩
  · rw [if_neg hw, B_size, t64 (n := -w) (by omega) (by omega)]
    have hm : mx w (-w) = (w.natAbs : Int) := by unfold mx; split <;> omega
    rw [hm]
    by_cases hg : (l.length : Int) > (w.natAbs : Int)
    · rw [if_pos hg]; exact .inr ⟨rfl, hw⟩
    · rw [if_neg hg, t64 (by omega) (by omega), repeat_is 32 (by omega) (by omega)]
      simp only [Option.bind_some]
      rw [B_size, List.length_replicate, if_pos (by omega), B_app]
      refine .inl ⟨_, rfl, .inr (.inr ⟨?_, ?_, fun h => absurd h hw, fun _ => ?_⟩)⟩
      · intro h; exact hl.ne (List.append_eq_nil_iff.1 h).2
      · intro c hc
        rcases List.mem_append.1 hc with hc | hc
        · rw [List.mem_replicate] at hc; rw [hc.2]; decide
        · exact hl.star c hc
      · rw [List.length_append, List.length_replicate]; omega
theorem sign_is (neg : Bool) (w : Int) : ∃ l, texts_sign.f neg w = some (B l) ∧ l.length ≤ 1 ∧ ∀ c ∈ l, c ≠ 42 ∧ c ≠ 32 := by
  unfold texts_sign.f
  split
  · exact ⟨[45], rfl, by simp, by simp⟩
  · split
    · exact ⟨[43], rfl, by simp, by simp⟩
    · exact ⟨[], rfl, by simp, by simp⟩
theorem fine_app {l r : List UInt8} (hl : ∀ c ∈ l, c ≠ 42 ∧ c ≠ 32) (hr : Fine r) : Fine (l ++ r) := by
  refine ⟨fun h => hr.ne (List.append_eq_nil_iff.1 h).2, fun c hc => ?_, fun c t e => ?_⟩
  · rcases List.mem_append.1 hc with hc | hc
    · exact (hl c hc).1
    · exact hr.star c hc
  · cases l with
    | nil => exact hr.head c t e
    | cons d l' =>
      rw [List.cons_append, List.cons.injEq] at e
      rw [← e.1]; exact (hl d (List.mem_cons_self ..)).2
theorem fine_digits {l : List UInt8} (hn : l ≠ []) (h : ∀ c ∈ l, 46 ≤ c.toNat ∧ c.toNat ≤ 57) : Fine l := by
  have hx : ∀ c : UInt8, 46 ≤ c.toNat → c ≠ 42 ∧ c ≠ 32 := fun c hc => ⟨by rintro rfl; exact absurd hc (by decide), by rintro rfl; exact absurd hc (by decide)⟩
  exact ⟨hn, fun c hc => (hx c (h c hc).1).1, fun c r e => (hx c (h c (by rw [e]; exact List.mem_cons_self ..)).1).2⟩
theorem stars_good {w : Int} (h0 : -1000 ≤ w) (h1 : w ≤ 1000) : ∃ u, texts_stars.f w = some (B u) ∧ Good w u := ⟨_, stars_is h0 h1, .inl rfl⟩
theorem wide_no {w : Int} (h0 : -1000 ≤ w) (h1 : w ≤ 1000) : texts_wide.f w = some false := by
  unfold texts_wide.f; rw [if_neg (by omega), decide_eq_false (by omega)]
theorem wide_yes {w : Int} (h : ¬ (-1000 ≤ w ∧ w ≤ 1000)) : texts_wide.f w = some true := by
  unfold texts_wide.f
  by_cases h1 : w > 1000
  · rw [if_pos h1]
  · rw [if_neg h1, decide_eq_true (by omega)]
theorem good_len {w : Int} {u : List UInt8} (h0 : -1000 ≤ w) (h1 : w ≤ 1000) (h : Good w u) (hw : w ≠ 0) : u.length ≤ 1000 := by
  rcases h with rfl | rfl | h
  · rw [List.length_replicate]; omega
  · simp
  · have := h.2.2.2 hw; omega
theorem whole_good {n w : Int} (hn : I64t n) : ∃ u, texts_Whole.f n w = some (B u) ∧ Good w u ∧ u.length ≤ 1000 := by
  unfold texts_Whole.f
  by_cases hw : -1000 ≤ w ∧ w ≤ 1000
  · rw [wide_no hw.1 hw.2]
    obtain ⟨sg, hsg, hl1, hsc⟩ := sign_is (decide (n < 0)) w
    have hd := dd_range n.natAbs
    have hf : Fine (sg ++ Lib.decDigits n.natAbs) := fine_app hsc (fine_digits (dd_ne _) (fun c hc => ⟨by have := (hd c hc).1; omega, (hd c hc).2⟩))
    have hlen := dd_len n.natAbs 18 (by unfold I64t at hn; omega)
    have hlen2 : (sg ++ Lib.decDigits n.natAbs).length ≤ 20 := by rw [List.length_append]; omega
    simp only [Option.bind_some, Bool.false_eq_true, if_false, hsg, magnitude_is hn, B_size]
    rw [if_pos (by omega), B_app]
    rcases filled_is hw.1 hw.2 hf (by omega) with ⟨u, hu, hg⟩ | ⟨hu, hz⟩
    · rw [hu]; simp only [Option.bind_some, if_true]
      refine ⟨u, rfl, hg, ?_⟩
      by_cases h0 : w = 0
      · subst h0
        have : texts_filled.f (B (sg ++ Lib.decDigits n.natAbs)) 0 = some (B (sg ++ Lib.decDigits n.natAbs), true) := by unfold texts_filled.f; rw [if_pos rfl]
        rw [this] at hu
        simp only [Option.some.injEq, Prod.mk.injEq, and_true] at hu
        rw [← B_inj hu]; omega
      · exact good_len hw.1 hw.2 hg h0
    · rw [hu]; simp only [Option.bind_some, Bool.false_eq_true, if_false]
      obtain ⟨u, h1, h2⟩ := stars_good hw.1 hw.2
      rw [h1]; exact ⟨u, rfl, h2, good_len hw.1 hw.2 h2 hz⟩
  · rw [wide_yes hw]
    simp only [Option.bind_some, if_true]
    rw [stars_is (w := 0) (by decide) (by decide)]
    exact ⟨[42], rfl, .inr (.inl rfl), by simp⟩
theorem B_extract (l : List UInt8) (i j : Nat) : (B l).extract i j = B ((l.drop i).take (j - i)) := by
  apply ByteArray.ext
  rw [ByteArray.data_extract]
  show l.toArray.extract i j = ((l.drop i).take (j - i)).toArray
  rw [List.extract_toArray]
theorem B_bt {l : List UInt8} {c : UInt8} {r : List UInt8} (h : l = c :: r) : bt (B l) 0 = (c.toNat : Int) := by
  subst h
  have := bt_at (B (c :: r)) 0 (by rw [B_size]; simp)
  rw [← this]; rfl
/-- decimal digits -/
def Digs (l : List UInt8) : Prop := ∀ c ∈ l, 48 ≤ c.toNat ∧ c.toNat ≤ 57
theorem Digs.app {l r : List UInt8} (hl : Digs l) (hr : Digs r) : Digs (l ++ r) := fun c hc => (List.mem_append.1 hc).elim (hl c) (hr c)
theorem Digs.take {l : List UInt8} (h : Digs l) (n : Nat) : Digs (l.take n) := fun c hc => h c (List.mem_of_mem_take hc)
theorem Digs.drop {l : List UInt8} (h : Digs l) (n : Nat) : Digs (l.drop n) := fun c hc => h c (List.mem_of_mem_drop hc)
theorem Digs.zeros (n : Nat) : Digs (List.replicate n 48) := fun c hc => by rw [List.mem_replicate] at hc; rw [hc.2]; decide
theorem dw_sub (l : List UInt8) (p : UInt8 → Bool) : ∀ c ∈ l.dropWhile p, c ∈ l := fun c hc => (List.dropWhile_sublist p).subset hc
theorem Digs.dw {l : List UInt8} (h : Digs l) (p : UInt8 → Bool) : Digs (l.dropWhile p) := fun c hc => h c (dw_sub l p c hc)
theorem more_digs : ∀ {l : List UInt8}, Digs l → Digs (moreR l)
  | [], _ => fun c hc => by rw [moreR, List.mem_singleton] at hc; subst hc; decide
  | d :: r, h => by
    have hd := h d (List.mem_cons_self ..)
    have hr : Digs r := fun c hc => h c (List.mem_cons_of_mem _ hc)
    intro c hc
    rw [moreR] at hc
    split at hc
    · rcases List.mem_cons.1 hc with rfl | hc
      · rw [UInt8.toNat_add]; simp; omega
      · exact hr c hc
    · rcases List.mem_cons.1 hc with rfl | hc
      · decide
      · exact more_digs hr c hc
theorem more_some : ∀ {l : List UInt8}, Digs l → ∃ c ∈ moreR l, c ≠ 48
  | [], _ => ⟨49, by rw [moreR]; exact List.mem_singleton.2 rfl, by decide⟩
  | d :: r, h => by
    have hd := h d (List.mem_cons_self ..)
    rw [moreR]
    split
    · refine ⟨d + 1, List.mem_cons_self .., fun e => ?_⟩
      have := congrArg UInt8.toNat e
      rw [UInt8.toNat_add] at this; simp at this; omega
    · obtain ⟨c, hc, hn⟩ := more_some (l := r) (fun c hc => h c (List.mem_cons_of_mem _ hc))
      exact ⟨c, List.mem_cons_of_mem _ hc, hn⟩
theorem more_len : ∀ l : List UInt8, (moreR l).length ≤ l.length + 1
  | [] => by simp [moreR]
  | d :: r => by
    rw [moreR]; split
    · simp
    · have := more_len r; simp; omega
theorem moreS_digs {l : List UInt8} (h : Digs l) : Digs (moreS l) := by
  unfold moreS
  intro c hc
  exact more_digs (fun d hd => h d (List.mem_reverse.1 hd)) c (List.mem_reverse.1 hc)
theorem moreS_some {l : List UInt8} (h : Digs l) : ∃ c ∈ moreS l, c ≠ 48 := by
  unfold moreS
  obtain ⟨c, hc, hn⟩ := more_some (l := l.reverse) (fun d hd => h d (List.mem_reverse.1 hd))
  exact ⟨c, List.mem_reverse.2 hc, hn⟩
theorem moreS_len (l : List UInt8) : (moreS l).length ≤ l.length + 1 := by
  unfold moreS; rw [List.length_reverse]; have := more_len l.reverse; rw [List.length_reverse] at this; exact this
theorem dw_all : ∀ l : List UInt8, l.dropWhile (([48] : List UInt8).contains ·) = [] → ∀ c ∈ l, c = 48
  | [], _, c, hc => by cases hc
  | d :: r, h, c, hc => by
    rw [List.dropWhile_cons] at h
    by_cases hd : ([48] : List UInt8).contains d = true
    · rw [if_pos hd] at h
      rcases List.mem_cons.1 hc with rfl | hc
      · simpa using hd
      · exact dw_all r h c hc
    · rw [if_neg hd] at h; cases h
theorem dw_ne {l : List UInt8} (h : ∃ c ∈ l, c ≠ 48) : l.dropWhile (([48] : List UInt8).contains ·) ≠ [] := by
  obtain ⟨c, hc, hn⟩ := h
  intro h0
  exact hn (dw_all l h0 c hc)
theorem dw_len (l : List UInt8) (p : UInt8 → Bool) : (l.dropWhile p).length ≤ l.length := (List.dropWhile_sublist p).length_le
theorem tl_is {l : List UInt8} (h : l.length ≤ 1000000) : strings_TrimLeft.f (B l) (⟨#[48]⟩ : ByteArray) = some (B (l.dropWhile (([48] : List UInt8).contains ·))) := by
  unfold strings_TrimLeft.f
  rw [if_pos ⟨by decide, by rw [B_size]; omega⟩]; rfl
theorem more_is {l : List UInt8} (h : l.length ≤ 1000000) : texts_more.f (B l) = some (B (moreS l)) := by
  unfold texts_more.f; rw [if_pos (by rw [B_size]; omega)]; rfl
/-- the digits of a number times 10 to the power of k, rounded -/
def scaledL (m : Int) (k : Int) : List UInt8 :=
  let D := Lib.decDigits m.natAbs
  if 0 ≤ k then (D ++ List.replicate k.toNat 48).dropWhile (([48] : List UInt8).contains ·)
  else if (D.length : Int) < -k then []
  else if 53 ≤ ((D.drop (D.length - (-k).toNat)).headD 0).toNat then (moreS (48 :: D.take (D.length - (-k).toNat))).dropWhile (([48] : List UInt8).contains ·)
  else (D.take (D.length - (-k).toNat)).dropWhile (([48] : List UInt8).contains ·)
theorem sc_is {m e a : Int} (hm : I64t m) (hk0 : -100000 ≤ e + a) (hk1 : e + a ≤ 100000) : texts_scaled.f m e a = some (B (scaledL m (e + a))) := by
  unfold texts_scaled.f scaledL
  rw [magnitude_is hm]
  have hlen := dd_len m.natAbs 18 (by unfold I64t at hm; omega)
  have hlen0 : 1 ≤ (Lib.decDigits m.natAbs).length := List.length_pos_iff.2 (dd_ne _)
  have hkw := t64 (n := e + a) (by omega) (by omega)
  generalize e + a = k at *
  simp only [Option.bind_some, hkw]
  generalize Lib.decDigits m.natAbs = D at *
  by_cases h0 : 0 ≤ k
  · rw [if_pos (show k ≥ 0 from h0), if_pos h0, repeat_is 48 h0 (by omega)]
    simp only [Option.bind_some]
    rw [B_size, B_size, List.length_replicate, if_pos (by omega), B_app, tl_is (by rw [List.length_append, List.length_replicate]; omega)]
    rfl
  · rw [if_neg (show ¬ k ≥ 0 from h0), if_neg h0]
    have hn : wrap64 (-k) = -k := t64 (by omega) (by omega)
    rw [hn, B_size]
    by_cases hd : (D.length : Int) < -k
    · rw [if_pos (show -k > (D.length : Int) from hd), if_pos hd]; rfl
    · rw [if_neg (show ¬ -k > (D.length : Int) from hd), if_neg hd]
      have hw : wrap64 ((D.length : Int) - -k) = ((D.length - (-k).toNat : Nat) : Int) := by rw [t64 (by omega) (by omega)]; omega
      rw [hw]
      have hp : D.length - (-k).toNat < D.length := by omega
      generalize D.length - (-k).toNat = p at *
      rw [if_pos (by omega), if_pos (by omega), Int.toNat_natCast]
      simp only [B_extract, List.drop_zero, Nat.sub_zero]
      have hdl : (D.drop p).take (D.length - p) = D.drop p := List.take_of_length_le (by rw [List.length_drop]; exact Nat.le_refl _)
      rw [hdl]
      obtain ⟨c, r, hcr⟩ : ∃ c r, D.drop p = c :: r := by
        cases hx : D.drop p with
        | nil => have := congrArg List.length hx; rw [List.length_drop] at this; simp at this; omega
        | cons c r => exact ⟨c, r, rfl⟩
      rw [B_size, B_size, B_bt hcr]
      have hl : (0 : Int) < ((D.drop p).length : Int) := by rw [List.length_drop]; omega
      rw [if_pos hl]
      have hhd : (D.drop p).headD 0 = c := by rw [hcr]; rfl
      rw [hhd]
      have htl : (D.take p).length ≤ 20 := by rw [List.length_take]; omega
      by_cases h53 : 53 ≤ c.toNat
      · rw [if_pos (show (c.toNat : Int) ≥ 53 by omega), if_pos h53, if_pos (by omega)]
        have e1 : (⟨#[48]⟩ : ByteArray) ++ B (D.take p) = B (48 :: D.take p) := B_app [48] (D.take p)
        rw [e1, more_is (by simp; omega)]
        simp only [Option.bind_some]
        rw [tl_is (by have := moreS_len (48 :: D.take p); simp at this; omega)]; rfl
      · rw [if_neg (show ¬ (c.toNat : Int) ≥ 53 by omega), if_neg h53, tl_is (by omega)]; rfl
theorem scaledL_digs (m k : Int) : Digs (scaledL m k) := by
  have hd : Digs (Lib.decDigits m.natAbs) := dd_range _
  unfold scaledL
  dsimp only
  split
  · exact (hd.app (Digs.zeros _)).dw _
  · split
    · intro c hc; cases hc
    · split
      · refine (moreS_digs ?_).dw _
        intro c hc
        rcases List.mem_cons.1 hc with rfl | hc
        · decide
        · exact (hd.take _) c hc
      · exact (hd.take _).dw _
theorem scaledL_len {m k : Int} (hm : I64t m) (hk : k ≤ 100000) : (scaledL m k).length ≤ 100100 := by
  have hlen := dd_len m.natAbs 18 (by unfold I64t at hm; omega)
  unfold scaledL
  dsimp only
  split
  · have := dw_len (Lib.decDigits m.natAbs ++ List.replicate k.toNat 48) (([48] : List UInt8).contains ·)
    rw [List.length_append, List.length_replicate] at this; omega
  · split
    · simp
    · split
      · have h1 := dw_len (moreS (48 :: (Lib.decDigits m.natAbs).take ((Lib.decDigits m.natAbs).length - (-k).toNat))) (([48] : List UInt8).contains ·)
        have h2 := moreS_len (48 :: (Lib.decDigits m.natAbs).take ((Lib.decDigits m.natAbs).length - (-k).toNat))
        rw [List.length_cons, List.length_take] at h2; omega
      · have h1 := dw_len ((Lib.decDigits m.natAbs).take ((Lib.decDigits m.natAbs).length - (-k).toNat)) (([48] : List UInt8).contains ·)
        rw [List.length_take] at h1; omega
/-- a number with at least one digit before the point -/
theorem scaledL_ne {m k : Int} (h0 : m.natAbs ≠ 0) (hk : -((Lib.decDigits m.natAbs).length : Int) < k) : scaledL m k ≠ [] := by
  obtain ⟨c, r, hcr, hc⟩ := dd_head h0
  have h48 : c ≠ 48 := by rintro rfl; exact absurd hc (by decide)
  have hd : Digs (Lib.decDigits m.natAbs) := dd_range _
  unfold scaledL
  dsimp only
  split
  · exact dw_ne ⟨c, List.mem_append_left _ (by rw [hcr]; exact List.mem_cons_self ..), h48⟩
  · split
    · omega
    · have hp : ∃ q, (Lib.decDigits m.natAbs).length - (-k).toNat = q + 1 := ⟨(Lib.decDigits m.natAbs).length - (-k).toNat - 1, by omega⟩
      obtain ⟨q, hq⟩ := hp
      rw [hq]
      split
      · exact dw_ne (moreS_some (fun d hd2 => by
          rcases List.mem_cons.1 hd2 with rfl | hd2
          · decide
          · exact (hd.take _) d hd2))
      · exact dw_ne ⟨c, by rw [hcr, List.take_succ_cons]; exact List.mem_cons_self .., h48⟩
/-! texts: Valid, pointed, Fixed -/
theorem hl_small {n : Nat} (h : n < 18446744073709551616) : hiw n = 0 ∧ low n = (n : Int) := by
  unfold hiw low; omega
theorem mag_is {m : Int} (h : I64t m) : reals_magnitude.f m = some (hiw m.natAbs, low m.natAbs) := by
  have hs := hl_small (n := m.natAbs) (by unfold I64t at h; omega)
  rw [hs.1, hs.2]
  unfold reals_magnitude.f
  unfold I64t at h
  simp only [IntKind.wrap_u64]
  split
  · congr 2; omega
  · congr 2; omega
theorem dig_is {m : Int} (h : I64t m) : ∃ d, reals_wide_digits.f (hiw m.natAbs) (low m.natAbs) = some d := by
  unfold reals_wide_digits.f
  have hn : m.natAbs < 340282366920938463463374607431768211456 := by unfold I64t at h; omega
  rw [if_pos (hl_u hn)]; exact ⟨_, rfl⟩
theorem valid_j0 (k : Nat) (h l p e d m : Int) (hm : reals_magnitude.f m = some (h, l)) (hd : reals_wide_digits.f h l = some d) : reals_Valid.j0 (k + 1) p false m e = some (decide ((wrap64 (d + (mx (wrap64 (e - 400)) 0))) ≤ p)) := by
  simp only [reals_Valid.j0]; rw [if_neg (by simp), hm]; simp only [Option.bind_some]; rw [hd]; simp only [Option.bind_some]
theorem rvalid_is {s d m e : Int} (k : Nat) (hd : reals_Digits.f s = some (d, 0)) (h0 : 0 ≤ d) (h1 : d ≤ 18) (hm : I64t m) :
    ∃ b, reals_Valid.f (k + 1) s m e = some b ∧ (b = true → -400 ≤ e ∧ e ≤ 418) := by
  unfold reals_Valid.f
  rw [hd]
  simp only [Option.bind_some]
  rw [if_pos trivial]
  by_cases hz : m = 0
  · rw [if_pos hz]; exact ⟨_, rfl, fun h => by have := eq_of_beq h; omega⟩
  · rw [if_neg hz]
    have bad : ∃ b, reals_Valid.j0 (k + 1) d true m e = some b ∧ (b = true → -400 ≤ e ∧ e ≤ 418) := by
      simp only [reals_Valid.j0]; rw [if_pos trivial]; exact ⟨_, rfl, fun h => by cases h⟩
    by_cases h2 : Int.tmod m 10 = 0
    · rw [if_pos h2]; exact bad
    · rw [if_neg h2]
      by_cases h3 : e < -400
      · rw [if_pos h3]; exact bad
      · rw [if_neg h3, t64 (by omega) (by omega)]
        by_cases h4 : e > 400 + d
        · rw [decide_eq_true h4]; exact bad
        · rw [decide_eq_false h4]
          obtain ⟨c, hc⟩ := dig_is hm
          exact ⟨_, valid_j0 k _ _ d e c m (mag_is hm) hc, fun _ => by omega⟩
theorem valid_is {m e : Int} (k : Nat) (hm : I64t m) : ∃ b, texts_valid.f (k + 1) m e = some b ∧ (b = true → -400 ≤ e ∧ e ≤ 418) := by
  obtain ⟨b1, e1, g1⟩ := rvalid_is (e := e) k (s := 1) (d := 18) rfl (by decide) (by decide) hm
  obtain ⟨b2, e2, g2⟩ := rvalid_is (e := e) k (s := 0) (d := 15) rfl (by decide) (by decide) hm
  obtain ⟨b3, e3, g3⟩ := rvalid_is (e := e) k (s := -1) (d := 7) rfl (by decide) (by decide) hm
  unfold texts_valid.f
  rw [e1, e2, e3]
  simp only [Option.bind_some]
  cases b1 with
  | true => exact ⟨true, rfl, fun _ => g1 rfl⟩
  | false =>
    cases b2 with
    | true => exact ⟨true, rfl, fun _ => g2 rfl⟩
    | false => exact ⟨b3, rfl, g3⟩
/-- digits with zeros ahead: one more than those behind the point -/
def padL (S : List UInt8) (a : Nat) : List UInt8 := if S.length ≤ a then List.replicate (a + 1 - S.length) 48 ++ S else S
theorem padL_digs {S : List UInt8} (h : Digs S) (a : Nat) : Digs (padL S a) := by
  unfold padL; split
  · exact (Digs.zeros _).app h
  · exact h
theorem padL_len (S : List UInt8) (a : Nat) : a + 1 ≤ (padL S a).length ∧ (padL S a).length ≤ max (a + 1) S.length := by
  unfold padL; split
  · rw [List.length_append, List.length_replicate]; omega
  · omega
/-- the digits with a point -/
def pointL (T : List UInt8) (a : Nat) : List UInt8 := if a = 0 then T else T.take (T.length - a) ++ 46 :: T.drop (T.length - a)
theorem pointL_chars {T : List UInt8} (h : Digs T) (a : Nat) : ∀ c ∈ pointL T a, 46 ≤ c.toNat ∧ c.toNat ≤ 57 := by
  have hT : ∀ c ∈ T, 46 ≤ c.toNat ∧ c.toNat ≤ 57 := fun c hc => by have := h c hc; omega
  unfold pointL
  intro c hc
  split at hc
  · exact hT c hc
  · rcases List.mem_append.1 hc with hc | hc
    · exact hT c (List.mem_of_mem_take hc)
    · rcases List.mem_cons.1 hc with rfl | hc
      · decide
      · exact hT c (List.mem_of_mem_drop hc)
theorem pointL_len {T : List UInt8} {a : Nat} (h : a + 1 ≤ T.length) : (pointL T a).length = if a = 0 then T.length else T.length + 1 := by
  unfold pointL; split
  · rfl
  · rw [List.length_append, List.length_cons, List.length_take, List.length_drop]; omega
theorem point_end {T : List UInt8} {a : Nat} (h : a + 1 ≤ T.length) (h1 : T.length ≤ 200000) :
    (if ((a : Nat) : Int) = 0 then some (B T) else (if 0 ≤ (wrap64 (((B T).size : Int) - (a : Int))) then (if (wrap64 (((B T).size : Int) - (a : Int))) ≤ ((B T).size : Int) then (if ((B T).extract 0 ((wrap64 (((B T).size : Int) - (a : Int))) : Int).toNat).size + 1 ≤ 9223372036854775807 then (if (((B T).extract 0 ((wrap64 (((B T).size : Int) - (a : Int))) : Int).toNat) ++ (⟨#[46]⟩ : ByteArray)).size + ((B T).extract ((wrap64 (((B T).size : Int) - (a : Int))) : Int).toNat (B T).size).size ≤ 9223372036854775807 then (some ((((B T).extract 0 ((wrap64 (((B T).size : Int) - (a : Int))) : Int).toNat) ++ (⟨#[46]⟩ : ByteArray)) ++ ((B T).extract ((wrap64 (((B T).size : Int) - (a : Int))) : Int).toNat (B T).size))) else (none)) else (none)) else (none)) else (none))) = some (B (pointL T a)) := by
  unfold pointL
  by_cases h0 : a = 0
  · rw [if_pos (by omega), if_pos h0]
  · rw [if_neg (by omega), if_neg h0, B_size]
    have hw : wrap64 ((T.length : Int) - (a : Int)) = ((T.length - a : Nat) : Int) := by rw [t64 (by omega) (by omega)]; omega
    rw [hw]
    have hp : T.length - a ≤ T.length := by omega
    generalize T.length - a = p at *
    rw [if_pos (by omega), if_pos (by omega), Int.toNat_natCast]
    simp only [B_extract, List.drop_zero, Nat.sub_zero]
    have hdl : (T.drop p).take (T.length - p) = T.drop p := List.take_of_length_le (by rw [List.length_drop]; exact Nat.le_refl _)
    have e46 : (⟨#[46]⟩ : ByteArray) = B [46] := rfl
    rw [hdl, e46, B_app, B_size, B_size, B_size, if_pos (by rw [List.length_take]; omega), if_pos (by rw [List.length_append, List.length_take, List.length_drop, List.length_singleton]; omega), B_app]
    rw [List.append_assoc]; rfl
theorem pointed_is {m e : Int} {a : Nat} (hm : I64t m) (hk0 : -100000 ≤ e + a) (hk1 : e + a ≤ 100000) (ha : a ≤ 1000) : texts_pointed.f m e a = some (B (pointL (padL (scaledL m (e + a)) a) a)) := by
  have hS := scaledL_len hm hk1
  have hL := padL_len (scaledL m (e + a)) a
  unfold texts_pointed.f
  rw [sc_is hm hk0 hk1]
  simp only [Option.bind_some]
  generalize scaledL m (e + a) = S at *
  have hpe := point_end (T := padL S a) (a := a) hL.1 (by omega)
  unfold padL at hpe ⊢
  by_cases h : S.length ≤ a
  · rw [if_pos h] at hpe ⊢
    have hB : (B S).size = S.length := B_size S
    rw [if_pos (by rw [hB]; omega), hB, t64 (n := (a : Int) + 1) (by omega) (by omega), t64 (by omega) (by omega), repeat_is 48 (by omega) (by omega)]
    simp only [Option.bind_some]
    have hn : ((a : Int) + 1 - (S.length : Int)).toNat = a + 1 - S.length := by omega
    rw [hn, B_app, B_size, List.length_replicate, if_pos (by omega)]
    exact hpe
  · rw [if_neg h] at hpe ⊢
    rw [if_neg (by rw [B_size]; omega)]
    exact hpe
/-! texts: Whole, Fixed -/
theorem prefix_is (p : List UInt8) : ∃ b, strings_HasPrefix.f (B p) (⟨#[48, 46]⟩ : ByteArray) = some b ∧ (b = true → 2 ≤ p.length) := by
  unfold strings_HasPrefix.f
  refine ⟨_, rfl, fun h => ?_⟩
  rw [B_list] at h
  have : ([48, 46] : List UInt8).isPrefixOf p = true := h
  match p, this with
  | [], h => simp [List.isPrefixOf] at h
  | [_], h => simp [List.isPrefixOf] at h
  | _ :: _ :: _, _ => simp
theorem good_of_fill {w : Int} (h0 : -1000 ≤ w) (h1 : w ≤ 1000) {l : List UInt8} (hl : Fine l) (hs : l.length ≤ 1000000) :
    ∃ u ok, texts_filled.f (B l) w = some (u, ok) ∧ (ok = true → ∃ v, u = B v ∧ Good w v) := by
  rcases filled_is h0 h1 hl hs with ⟨v, e, g⟩ | ⟨e, _⟩
  · exact ⟨_, _, e, fun _ => ⟨v, rfl, g⟩⟩
  · exact ⟨_, _, e, fun h => by cases h⟩
theorem fixed_loop {w m e : Int} (h0 : -1000 ≤ w) (h1 : w ≤ 1000) (hm : I64t m) (he0 : -400 ≤ e) (he1 : e ≤ 418) {sg : List UInt8} (hsl : sg.length ≤ 1) (hsg : ∀ c ∈ sg, c ≠ 42 ∧ c ≠ 32) :
    ∀ (n k : Nat), n ≤ 501 → 2 * n + 1 ≤ k → ∃ u, texts_Fixed.l0 k w ((n : Int) - 1) (B sg) m e = some (B u) ∧ Good w u := by
  intro n
  induction n with
  | zero =>
    intro k _ hk
    obtain ⟨k, rfl⟩ : ∃ j, k = j + 1 := ⟨k - 1, by omega⟩
    obtain ⟨u, hu, g⟩ := stars_good h0 h1
    refine ⟨u, ?_, g⟩
    simp only [texts_Fixed.l0]
    rw [if_neg (by omega), hu]; rfl
  | succ n ih =>
    intro k hn hk
    obtain ⟨k, rfl⟩ : ∃ j, k = j + 1 + 1 := ⟨k - 2, by omega⟩
    have han : ((n + 1 : Nat) : Int) - 1 = (n : Int) := by omega
    rw [han]
    have hS := scaledL_len hm (k := e + n) (by omega)
    have hSd := scaledL_digs m (e + n)
    have hp := pointed_is (m := m) (e := e) (a := n) hm (by omega) (by omega) (by omega)
    generalize scaledL m (e + n) = S at *
    have hTl := padL_len S n
    have hTd := padL_digs hSd n
    generalize padL S n = T at *
    have hc := pointL_chars hTd n
    have hl := pointL_len hTl.1
    generalize pointL T n = p at *
    have hpl : 1 ≤ p.length ∧ p.length ≤ 200000 := by rw [hl]; split <;> omega
    obtain ⟨un, hun, gn⟩ := ih k (by omega) (by omega)
    have hwn : wrap64 ((n : Int) - 1) = (n : Int) - 1 := t64 (by omega) (by omega)
    have J : ∀ b : Bool, (b = true → 2 ≤ p.length) → ∃ u, texts_Fixed.j2 (k + 1) w n (B sg) (B p) b m e = some (B u) ∧ Good w u := by
      intro b hb
      have fin : ∀ q : List UInt8, q ≠ [] → (∀ c ∈ q, c ∈ p) → q.length ≤ 200000 → ∃ u, ((texts_filled.f (B (sg ++ q)) w).bind fun bt164 => (if bt164.2 = true then (some bt164.1) else (texts_Fixed.l0 k w (wrap64 ((n : Int) - 1)) (B sg) m e))) = some (B u) ∧ Good w u := by
        intro q hq hqp hql
        obtain ⟨u, ok, e1, g1⟩ := good_of_fill h0 h1 (fine_app hsg (fine_digits hq (fun c h => hc c (hqp c h)))) (by rw [List.length_append]; omega)
        rw [e1]
        simp only [Option.bind_some]
        cases ok with
        | true =>
          obtain ⟨v, rfl, g⟩ := g1 rfl
          rw [if_pos rfl]
          exact ⟨v, rfl, g⟩
        | false =>
          rw [if_neg (by simp), hwn]
          exact ⟨un, hun, gn⟩
      simp only [texts_Fixed.j2]
      cases b with
      | true =>
        have h2 := hb rfl
        rw [if_pos rfl, B_size, if_pos (by omega)]
        have hx : (B p).extract 1 p.length = B (p.drop 1) := by
          rw [B_extract, List.take_of_length_le (by rw [List.length_drop]; exact Nat.le_refl _)]
        rw [hx, B_size, B_size, List.length_drop, if_pos (by omega), B_app]
        exact fin (p.drop 1) (fun h => by have := congrArg List.length h; rw [List.length_drop] at this; simp at this; omega) (fun c h => List.mem_of_mem_drop h) (by rw [List.length_drop]; omega)
      | false =>
        rw [if_neg (by simp), B_size, B_size, if_pos (by omega), B_app]
        exact fin p (fun h => by rw [h] at hpl; simp at hpl) (fun c h => h) hpl.2
    simp only [texts_Fixed.l0]
    rw [if_pos (by omega), hp]
    simp only [Option.bind_some]
    by_cases hw : w = 0
    · rw [if_pos hw]; exact J false (fun h => by cases h)
    · rw [if_neg hw, B_size, B_size, if_pos (by omega)]
      split
      · obtain ⟨b, hb, hb2⟩ := prefix_is p
        rw [hb]
        exact J b hb2
      · exact J false (fun h => by cases h)
theorem fixed_good {m e w a : Int} (k : Nat) (hk : 1100 ≤ k) (hm : I64t m) (ha : I64t a) : ∃ u, texts_Fixed.f k m e w a = some (B u) ∧ Good w u ∧ (w ≠ 0 → u.length ≤ 1000) := by
  obtain ⟨k, rfl⟩ : ∃ j, k = j + 1 := ⟨k - 1, by omega⟩
  have bad : ∃ u, texts_Fixed.j0 (k + 1) w a true m e = some (B u) ∧ Good w u ∧ (w ≠ 0 → u.length ≤ 1000) := by
    refine ⟨[42], ?_, .inr (.inl rfl), fun _ => by decide⟩
    simp only [texts_Fixed.j0]
    rw [if_pos trivial, stars_is (by decide) (by decide)]; rfl
  unfold texts_Fixed.f
  by_cases h1 : a < 0
  · rw [if_pos h1]; exact bad
  · rw [if_neg h1]
    by_cases h2 : a > 500
    · rw [if_pos h2]; exact bad
    · rw [if_neg h2]
      by_cases hw : -1000 ≤ w ∧ w ≤ 1000
      · rw [wide_no hw.1 hw.2]
        simp only [Option.bind_some]
        rw [if_neg (by simp)]
        obtain ⟨b, hv, hb⟩ := valid_is (e := e) k hm
        rw [hv]
        simp only [Option.bind_some]
        cases b with
        | false => exact bad
        | true =>
          have hb := hb rfl
          obtain ⟨sg, hs, hsl, hsc⟩ := sign_is (decide (m < 0)) w
          simp only [texts_Fixed.j0]
          rw [if_neg (by simp), hs]
          simp only [Option.bind_some]
          obtain ⟨u, hu, g⟩ := fixed_loop hw.1 hw.2 hm hb.1 hb.2 hsl hsc (a.toNat + 1) k (by omega) (by omega)
          rw [show ((a.toNat + 1 : Nat) : Int) - 1 = a by omega] at hu
          exact ⟨u, hu, g, good_len hw.1 hw.2 g⟩
      · rw [wide_yes hw]
        simp only [Option.bind_some]
        rw [if_pos trivial]; exact bad
/-! texts: Float, and the law over three texts -/
theorem ib_mem (l : List UInt8) (c : UInt8) : 0 ≤ Lib.indexByte l c ↔ c ∈ l := by
  induction l with
  | nil => simp [Lib.indexByte]
  | cons b l ih =>
    have hg := Lib.indexByte_ge l c
    rw [Lib.indexByte]
    by_cases hb : b = c
    · subst hb; simp
    · rw [if_neg (by simpa using hb)]
      rw [List.mem_cons, ← ih]
      have hb' : ¬ c = b := fun h => hb h.symm
      by_cases h1 : Lib.indexByte l c = -1
      · rw [if_pos (by rw [h1]; rfl), h1]; simp [hb']
      · rw [if_neg (by simpa using h1)]; simp only [hb', false_or]; omega
theorem contains_is (l : List UInt8) : strings_Contains.f (B l) (⟨#[42]⟩ : ByteArray) = some (decide ((42 : UInt8) ∈ l)) := by
  unfold strings_Contains.f
  rw [if_pos (show (⟨#[42]⟩ : ByteArray).size = 1 from rfl)]
  have : (decide (0 ≤ Lib.indexByte (B l).data.toList ((⟨#[42]⟩ : ByteArray).data.toList.headD 0))) = decide ((42 : UInt8) ∈ l) := by
    rw [decide_eq_decide, B_list]; exact ib_mem l 42
  rw [this]
theorem all_dw {l : List UInt8} (h : ∀ c ∈ l, c = 42) : l.dropWhile (([42] : List UInt8).contains ·) = [] := by
  induction l with
  | nil => rfl
  | cons d r ih =>
    rw [List.dropWhile_cons, if_pos (by rw [h d (List.mem_cons_self ..)]; decide)]
    exact ih (fun c hc => h c (List.mem_cons_of_mem _ hc))
theorem trim_is {l : List UInt8} (h : ∀ c ∈ l, c = 42) (hl : l.length ≤ 1000000) : strings_Trim.f (B l) (⟨#[42]⟩ : ByteArray) = some (B []) := by
  unfold strings_Trim.f
  rw [if_pos ⟨by decide, by rw [B_size]; omega⟩]
  congr 1
  show B (Lib.trimS l [42]) = _
  congr 1
  unfold Lib.trimS Lib.trimRightS
  rw [all_dw (l := l.reverse) (fun c hc => h c (List.mem_reverse.1 hc))]; rfl
theorem fill_tot {w : Int} (h0 : -1000 ≤ w) (h1 : w ≤ 1000) {l : List UInt8} (hs : l.length ≤ 1000000) : ∃ u ok, texts_filled.f (B l) w = some (B u, ok) := by
  unfold texts_filled.f
  by_cases hw : w = 0
  · rw [if_pos hw]; exact ⟨l, _, rfl⟩
  · rw [if_neg hw, B_size, t64 (n := -w) (by omega) (by omega)]
    have hm : mx w (-w) = (w.natAbs : Int) := by unfold mx; split <;> omega
    rw [hm]
    by_cases hg : (l.length : Int) > (w.natAbs : Int)
    · rw [if_pos hg]; exact ⟨[], _, rfl⟩
    · rw [if_neg hg, t64 (by omega) (by omega), repeat_is 32 (by omega) (by omega)]
      simp only [Option.bind_some]
      rw [B_size, List.length_replicate, if_pos (by omega), B_app]
      exact ⟨_, _, rfl⟩
theorem fine_more {l r : List UInt8} (hl : Fine l) (hr : ∀ c ∈ r, c ≠ 42) : Fine (l ++ r) := by
  refine ⟨fun h => hl.ne (List.append_eq_nil_iff.1 h).1, fun c hc => (List.mem_append.1 hc).elim (hl.star c) (hr c), fun c t e => ?_⟩
  cases l with
  | nil => exact absurd rfl hl.ne
  | cons d l' =>
    rw [List.cons_append, List.cons.injEq] at e
    rw [← e.1]; exact hl.head d l' rfl
theorem float_j2 {w x e : Int} (k : Nat) (h0 : -1000 ≤ w) (h1 : w ≤ 1000) (he : I64t e) {l : List UInt8} (hl : Fine l) (hs : l.length ≤ 200000) :
    ∃ u, texts_Float.j2 (k + 1) w x e (B l) = some (B u) ∧ Good w u := by
  obtain ⟨pw, hp, _, hpl⟩ := whole_good (w := x) he
  have e101 : (⟨#[101]⟩ : ByteArray) = B [101] := rfl
  simp only [texts_Float.j2]
  rw [hp]
  simp only [Option.bind_some]
  rw [B_size, if_pos (by omega), e101, B_app, B_size, B_size, if_pos (by rw [List.length_append, List.length_singleton]; omega), B_app]
  obtain ⟨us, hus, gs⟩ := stars_good h0 h1
  have hlen : (l ++ [101] ++ pw).length ≤ 1000000 := by rw [List.length_append, List.length_append, List.length_singleton]; omega
  rw [contains_is]
  by_cases hc : (42 : UInt8) ∈ pw
  · obtain ⟨u, ok, hu⟩ := fill_tot h0 h1 hlen
    rw [hu]
    simp only [Option.bind_some]
    cases ok with
    | true => rw [if_pos rfl, decide_eq_true hc, if_pos rfl, hus]; exact ⟨us, rfl, gs⟩
    | false => rw [if_neg (by simp), hus]; exact ⟨us, rfl, gs⟩
  · have hf : Fine (l ++ [101] ++ pw) := fine_more (fine_more hl (by intro c hc; rw [List.mem_singleton] at hc; subst hc; decide)) (fun c h e => hc (e ▸ h))
    obtain ⟨u, ok, hu, g⟩ := good_of_fill h0 h1 hf hlen
    rw [hu]
    simp only [Option.bind_some]
    cases ok with
    | true =>
      obtain ⟨v, rfl, gv⟩ := g rfl
      rw [if_pos rfl, decide_eq_false hc, if_neg (by simp)]; exact ⟨v, rfl, gv⟩
    | false => rw [if_neg (by simp), hus]; exact ⟨us, rfl, gs⟩
theorem float_j1 {w x e a m E : Int} (k : Nat) (h0 : -1000 ≤ w) (h1 : w ≤ 1000) (he : I64t e) {S : List UInt8} (hd : Digs S) (hn : S ≠ []) (hs : S.length ≤ 100100) :
    ∃ u, texts_Float.j1 (k + 2) w a x (B S) e m E = some (B u) ∧ Good w u := by
  obtain ⟨sg, hsg, hsl, hsc⟩ := sign_is (decide (m < 0)) w
  obtain ⟨c, r, rfl⟩ : ∃ c r, S = c :: r := by
    cases S with
    | nil => exact absurd rfl hn
    | cons c r => exact ⟨c, r, rfl⟩
  simp only [texts_Float.j1]
  rw [hsg]
  simp only [Option.bind_some]
  have e1 : (B (c :: r)).extract 0 1 = B [c] := by rw [B_extract]; rfl
  have e2 : (B (c :: r)).extract 1 (B (c :: r)).size = B r := by
    rw [B_extract, B_size]; congr 1
    exact List.take_of_length_le (by simp)
  have e46 : (⟨#[46]⟩ : ByteArray) = B [46] := rfl
  rw [e1, e2, e46]
  simp only [B_app, B_size]
  rw [List.length_cons] at hs
  rw [if_pos (by decide), if_pos (by rw [List.length_cons]; omega), if_pos (by rw [List.length_singleton]; omega)]
  have h46 : ∀ d ∈ c :: r, 46 ≤ d.toNat ∧ d.toNat ≤ 57 := fun d h => by have := hd d h; omega
  by_cases ha : a > 0
  · rw [if_pos ha, if_pos (by omega), if_pos (by simp; omega)]
    refine float_j2 k h0 h1 he ?_ (by simp; omega)
    rw [List.append_assoc]
    refine fine_app hsc (fine_digits (by simp) ?_)
    intro d hd2
    rcases List.mem_cons.1 hd2 with rfl | hd2
    · exact h46 _ (List.mem_cons_self ..)
    · rcases List.mem_cons.1 hd2 with rfl | hd2
      · decide
      · exact h46 d (List.mem_cons_of_mem _ hd2)
  · rw [if_neg ha]
    refine float_j2 k h0 h1 he (fine_app hsc (fine_digits (by simp) ?_)) (by simp; omega)
    intro d hd2
    rw [List.mem_singleton] at hd2; subst hd2
    exact h46 _ (List.mem_cons_self ..)
theorem float_good {m e w a x : Int} (k : Nat) (hk : 10 ≤ k) (hm : I64t m) : ∃ u, texts_Float.f k m e w a x = some (B u) ∧ Good w u ∧ (w ≠ 0 → u.length ≤ 1000) := by
  obtain ⟨k, rfl⟩ : ∃ j, k = j + 3 := ⟨k - 3, by omega⟩
  have bad : ∃ u, texts_Float.j0 (k + 3) w a x true m e = some (B u) ∧ Good w u ∧ (w ≠ 0 → u.length ≤ 1000) := by
    refine ⟨[42], ?_, .inr (.inl rfl), fun _ => by decide⟩
    simp only [texts_Float.j0]
    rw [if_pos trivial, stars_is (by decide) (by decide)]; rfl
  unfold texts_Float.f
  by_cases h1 : a < 0
  · rw [if_pos h1]; exact bad
  · rw [if_neg h1]
    by_cases h2 : a > 500
    · rw [if_pos h2]; exact bad
    · rw [if_neg h2]
      by_cases hw : -1000 ≤ w ∧ w ≤ 1000
      · rw [wide_no hw.1 hw.2]
        simp only [Option.bind_some]
        rw [if_neg (by simp)]
        by_cases hx : -1000 ≤ x ∧ x ≤ 1000
        · rw [wide_no hx.1 hx.2]
          simp only [Option.bind_some]
          rw [if_neg (by simp)]
          obtain ⟨b, hv, hb⟩ := valid_is (e := e) (k + 2) hm
          rw [hv]
          simp only [Option.bind_some]
          cases b with
          | false => exact bad
          | true =>
            have hb := hb rfl
            have lift : (∃ u, texts_Float.j0 (k + 3) w a x false m e = some (B u) ∧ Good w u) → ∃ u, texts_Float.j0 (k + 3) w a x false m e = some (B u) ∧ Good w u ∧ (w ≠ 0 → u.length ≤ 1000) := by
              rintro ⟨u, hu, g⟩; exact ⟨u, hu, g, good_len hw.1 hw.2 g⟩
            refine lift ?_
            simp only [texts_Float.j0]
            have ha1 : wrap64 (a + 1) = a + 1 := t64 (by omega) (by omega)
            rw [if_neg (by simp), ha1, repeat_is 48 (by omega) (by omega)]
            simp only [Option.bind_some]
            by_cases hz : m = 0
            · rw [if_pos hz]
              exact float_j1 k hw.1 hw.2 (by unfold I64t; omega) (Digs.zeros _) (fun h => by have := congrArg List.length h; rw [List.length_replicate] at this; simp at this; omega) (by rw [List.length_replicate]; omega)
            · rw [if_neg hz, magnitude_is hm]
              simp only [Option.bind_some]
              have hdl := dd_len m.natAbs 18 (by unfold I64t at hm; omega)
              have hdn : 1 ≤ (Lib.decDigits m.natAbs).length := List.length_pos_iff.2 (dd_ne _)
              have hne := scaledL_ne (m := m) (k := 1 - ((Lib.decDigits m.natAbs).length : Int) + a) (by omega) (by omega)
              have hlen := scaledL_len hm (k := 1 - ((Lib.decDigits m.natAbs).length : Int) + a) (by omega)
              have hdg := scaledL_digs m (1 - ((Lib.decDigits m.natAbs).length : Int) + a)
              have hsc := sc_is (m := m) (e := 1 - ((Lib.decDigits m.natAbs).length : Int)) (a := a) hm (by omega) (by omega)
              rw [B_size]
              generalize (Lib.decDigits m.natAbs).length = n at *
              have w1 : wrap64 (e + (n : Int)) = e + n := t64 (by omega) (by omega)
              have w2 : wrap64 (e + (n : Int) - 1) = e + n - 1 := t64 (by omega) (by omega)
              have w3 : wrap64 (e - (e + (n : Int) - 1)) = 1 - n := by rw [t64 (by omega) (by omega)]; omega
              rw [w1, w2, w3, hsc]
              simp only [Option.bind_some]
              generalize scaledL m (1 - (n : Int) + a) = S at *
              rw [B_size]
              by_cases hg : (S.length : Int) > a + 1
              · rw [if_pos hg, if_pos (by omega), if_pos (by omega), B_extract, List.drop_zero, Nat.sub_zero]
                have hl : (S.take (a + 1).toNat).length = (a + 1).toNat := by rw [List.length_take]; omega
                exact float_j1 k hw.1 hw.2 (by rw [t64 (by omega) (by omega)]; unfold I64t; omega) (hdg.take _) (fun h => by rw [h] at hl; simp at hl; omega) (by omega)
              · rw [if_neg hg]
                exact float_j1 k hw.1 hw.2 (by unfold I64t; omega) hdg hne hlen
        · rw [wide_yes hx]
          simp only [Option.bind_some]
          rw [if_pos trivial]; exact bad
      · rw [wide_yes hw]
        simp only [Option.bind_some]
        rw [if_pos trivial]; exact bad
/-! texts: the law TextsWide -/
theorem wide_step {w a x : Int} (hw : I64t w) (ys : List ByteArray) (n i : Int) (u : List UInt8) (hn : n = ys.length) (h0 : 0 ≤ i) (h1 : i < n) (h3 : n ≤ 3) (hget : rdOf ByteArray.empty ys i = B u) (g : Good w u) (hl : w ≠ 0 → u.length ≤ 1000)
    (k : Nat) (next : ∀ j, k ≤ j → environlaw03_TextsWide.l0 j ys n (i + 1) w a x = some true) :
    ∀ j, k + 2 ≤ j → environlaw03_TextsWide.l0 j ys n i w a x = some true := by
  intro j hj
  obtain ⟨j, rfl⟩ : ∃ q, j = q + 2 := ⟨j - 2, by omega⟩
  have hi : wrap64 (i + 1) = i + 1 := t64 (by omega) (by omega)
  have e42 : (⟨#[42]⟩ : ByteArray) = B [42] := rfl
  simp only [environlaw03_TextsWide.l0]
  rw [if_pos h1, if_pos h0, if_pos (by omega), hget, contains_is]
  simp only [Option.bind_some]
  have good : ∀ b, b = false → environlaw03_TextsWide.j1 (j + 1) ys n i b w a x = some true := by
    rintro b rfl
    simp only [environlaw03_TextsWide.j1]
    rw [if_neg (by simp), hi]
    exact next j (by omega)
  have stars : ∀ q : Nat, 1 ≤ q → q ≤ 1000 ∨ w = 0 → (q = 1 ∨ (q : Int) = w ∨ (q : Int) = -w) → u = List.replicate q 42 → (if decide ((42 : UInt8) ∈ u) = true then ((strings_Trim.f (B u) (⟨#[42]⟩ : ByteArray)).bind fun t327 => (if t327.toList = ([] : List UInt8) then (if ((B u).size : Int) = 1 then (environlaw03_TextsWide.j1 (j + 1) ys n i false w a x) else (if ((B u).size : Int) = w then (environlaw03_TextsWide.j1 (j + 1) ys n i false w a x) else (environlaw03_TextsWide.j1 (j + 1) ys n i (((B u).size : Int) != (wrap64 (-w))) w a x))) else (environlaw03_TextsWide.j1 (j + 1) ys n i true w a x))) else (if w = 0 then (if (B u).toList = ([] : List UInt8) then (some false) else (if 0 < ((B u).size : Int) then (if (bt (B u) 0) = 32 then (some false) else (environlaw03_TextsWide.l0 (j + 1) ys n (wrap64 (i + 1)) w a x)) else (none))) else (if ((B u).size : Int) = w then (if (B u).toList = ([] : List UInt8) then (some false) else (environlaw03_TextsWide.l0 (j + 1) ys n (wrap64 (i + 1)) w a x)) else (if ((B u).size : Int) = (wrap64 (-w)) then (if (B u).toList = ([] : List UInt8) then (some false) else (environlaw03_TextsWide.l0 (j + 1) ys n (wrap64 (i + 1)) w a x)) else (some false))))) = some true := by
    intro q hq1 hq2 hq3 hu
    have hq4 : q ≤ 1000 := by rcases hq2 with h | h <;> omega
    have hm : (42 : UInt8) ∈ u := by rw [hu, List.mem_replicate]; exact ⟨by omega, rfl⟩
    have hul : u.length = q := by rw [hu, List.length_replicate]
    rw [decide_eq_true hm, if_pos rfl, trim_is (by rw [hu]; intro c hc; exact (List.mem_replicate.1 hc).2) (by omega)]
    simp only [Option.bind_some]
    rw [if_pos (B_toList []), B_size, hul]
    by_cases h1 : (q : Int) = 1
    · rw [if_pos h1]; exact good _ rfl
    · rw [if_neg h1]
      by_cases h2 : (q : Int) = w
      · rw [if_pos h2]; exact good _ rfl
      · rw [if_neg h2]
        refine good _ ?_
        have : (q : Int) = -w := by omega
        rw [t64 (n := -w) (by omega) (by omega), this]; simp
  rcases g with hu | hu | ⟨hne, hst, hz, hlen⟩
  · refine stars (max w.natAbs 1) (by omega) ?_ (by omega) hu
    by_cases h : w = 0
    · exact .inr h
    · have := hl h; rw [hu, List.length_replicate] at this; exact .inl this
  · exact stars 1 (by omega) (.inl (by omega)) (.inl rfl) hu
  · have hm : ¬ (42 : UInt8) ∈ u := fun h => hst _ h rfl
    have hn' : ¬ (B u).toList = ([] : List UInt8) := by rw [B_toList]; exact hne
    rw [decide_eq_false hm, if_neg (by simp)]
    have nx : environlaw03_TextsWide.l0 (j + 1) ys n (wrap64 (i + 1)) w a x = some true := by rw [hi]; exact next (j + 1) (by omega)
    by_cases h : w = 0
    · obtain ⟨c, r, hcr⟩ : ∃ c r, u = c :: r := by
        cases u with
        | nil => exact absurd rfl hne
        | cons c r => exact ⟨c, r, rfl⟩
      have hc := hz h c r hcr
      rw [if_pos h, if_neg hn', if_pos (by rw [B_size, hcr, List.length_cons]; omega), B_bt hcr, if_neg (fun e => hc (UInt8.toNat_inj.1 (by have : ((32 : UInt8)).toNat = 32 := rfl; omega)))]
      exact nx
    · rw [if_neg h]
      have h4 := hlen h
      have h5 := hl h
      rw [B_size]
      by_cases h6 : (u.length : Int) = w
      · rw [if_pos h6, if_neg hn']; exact nx
      · rw [if_neg h6, if_pos (by rw [t64 (by omega) (by omega)]; omega), if_neg hn']; exact nx
theorem awake03 (k : Nat) (hk : k = 1200) : environlaw03_awake.f k = some true := by
  subst hk; decide +kernel
theorem textsWide_is {n m e w a x : Int} (hn : I64t n) (hm : I64t m) (hw : I64t w) (ha : I64t a) (k : Nat) (hk : k = 1200) : environlaw03_TextsWide.f k n m e w a x = some true := by
  unfold environlaw03_TextsWide.f
  rw [awake03 k hk]
  simp only [Option.bind_some]
  rw [if_pos trivial]
  obtain ⟨u1, e1, g1, l1⟩ := whole_good (w := w) hn
  obtain ⟨u2, e2, g2, l2⟩ := fixed_good (e := e) (w := w) (a := a) k (by omega) hm ha
  obtain ⟨u3, e3, g3, l3⟩ := float_good (e := e) (w := w) (a := a) (x := x) k (by omega) hm
  rw [e1, e2, e3]
  simp only [Option.bind_some]
  have s3 : ∀ j, 1 ≤ j → environlaw03_TextsWide.l0 j [B u1, B u2, B u3] 3 3 w a x = some true := by
    intro j hj
    obtain ⟨j, rfl⟩ : ∃ q, j = q + 1 := ⟨j - 1, by omega⟩
    simp only [environlaw03_TextsWide.l0]
    rw [if_neg (by decide)]
  have s2 := wide_step hw [B u1, B u2, B u3] 3 2 u3 rfl (by decide) (by decide) (by decide) rfl g3 l3 1 s3
  have s1 := wide_step hw [B u1, B u2, B u3] 3 1 u2 rfl (by decide) (by decide) (by decide) rfl g2 l2 3 s2
  have s0 := wide_step hw [B u1, B u2, B u3] 3 0 u1 rfl (by decide) (by decide) (by decide) rfl g1 (fun _ => l1) 5 s1
  exact s0 k (by omega)
/-- THE LAW's WALK: it returns true. -/
theorem textsWide_walk (n m e w a x : Int) (W : World) (hE : Env W) (hn : I64t n) (hm : I64t m) (hw : I64t w) (ha : I64t a) :
    Calls Tryz.prog 3 #[.int .i64 n, .agg #[.int .i64 m, .int .i64 e], .agg #[.int .i64 w, .int .i64 a, .int .i64 x]] W fun e' w' => e' = .returned (.bool true) ∧ Below W.heap.size W w' :=
  environlaw03_TextsWide.calls 1200 n m e w a x true W hE (textsWide_is hn hm hw ha 1200 rfl)
end Go.Proofs.YtckbmniiecbalaaGreatDoor.PT
