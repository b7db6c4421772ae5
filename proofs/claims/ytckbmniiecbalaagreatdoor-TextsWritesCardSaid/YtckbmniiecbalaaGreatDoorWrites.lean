import Derived.Test.YtckbmniiecbalaaGreatDoorPTgSf
import Derived.Test.YtckbmniiecbalaaGreatDoorPTgSe
import Derived.Test.YtckbmniiecbalaaGreatDoorPTgTc
import Derived.Test.YtckbmniiecbalaaGreatDoorPTgTd
import Derived.Test.YtckbmniiecbalaaGreatDoorPTgSh
namespace Go.Proofs.YtckbmniiecbalaaGreatDoor.PT
open Go.RowKit Go.Proofs.YtckbmniiecbalaaGreatDoorW.PrintWords Go.Proofs.YtckbmniiecbalaaGreatDoorW.PrintLast Go.Proofs.YtckbmniiecbalaaGreatDoorW.PrintMore
set_option linter.unusedVariables false
set_option linter.unusedSimpArgs false
theorem dd_range (u : Nat) : ∀ c ∈ Lib.decDigits u, 48 ≤ c.toNat ∧ c.toNat ≤ 57 := by
  induction u using Nat.strongRecOn with
  | ind u ih =>
    intro c hc
    rw [Lib.decDigits] at hc
    split at hc
    · rename_i h
      rw [List.mem_singleton] at hc; subst hc
      rw [UInt8.toNat_ofNat', Nat.mod_eq_of_lt (by omega)]; omega
    · rename_i h
      rcases List.mem_append.1 hc with hc | hc
      · exact ih (u / 10) (by omega) c hc
      · rw [List.mem_singleton] at hc; subst hc
        rw [UInt8.toNat_ofNat', Nat.mod_eq_of_lt (by omega)]; omega
theorem dd_ne (u : Nat) : Lib.decDigits u ≠ [] := by
  rw [Lib.decDigits]; split <;> simp
theorem dd_len (u : Nat) : ∀ k : Nat, u < 10 ^ (k + 1) → (Lib.decDigits u).length ≤ k + 1 := by
  intro k
  induction k generalizing u with
  | zero => intro h; rw [Lib.decDigits, dif_pos (by omega)]; simp
  | succ k ih =>
    intro h
    rw [Lib.decDigits]
    split
    · simp
    · rw [List.length_append, List.length_singleton]
      have := ih (u / 10) (by rw [Nat.pow_succ] at h; omega)
      omega
theorem dd_head {u : Nat} (h : u ≠ 0) : ∃ c r, Lib.decDigits u = c :: r ∧ 49 ≤ c.toNat := by
  induction u using Nat.strongRecOn with
  | ind u ih =>
    rw [Lib.decDigits]
    split
    · exact ⟨_, [], rfl, by rw [UInt8.toNat_ofNat', Nat.mod_eq_of_lt (by omega)]; omega⟩
    · obtain ⟨c, r, e, hc⟩ := ih (u / 10) (by omega) (by omega)
      exact ⟨c, r ++ [_], by rw [e]; rfl, hc⟩
def I64t (n : Int) : Prop := -9223372036854775808 ≤ n ∧ n ≤ 9223372036854775807
theorem t64 {n : Int} (h : -9223372036854775808 ≤ n) (h' : n ≤ 9223372036854775807) : wrap64 n = n := by unfold wrap64; omega
def B (l : List UInt8) : ByteArray := ⟨l.toArray⟩
theorem B_list (l : List UInt8) : (B l).data.toList = l := rfl
theorem B_size (l : List UInt8) : (B l).size = l.length := by show l.toArray.size = _; simp
theorem B_app (l r : List UInt8) : B l ++ B r = B (l ++ r) := by
  apply ByteArray.ext; rw [ByteArray.data_append]; simp [B]
theorem B_inj {l r : List UInt8} (h : B l = B r) : l = r := by
  have := congrArg (fun s : ByteArray => s.data.toList) h; exact this
theorem B_toList (l : List UInt8) : (B l).toList = l := by rw [ByteArray.toList_eq]; rfl
theorem rep1 (c : UInt8) (n : Nat) : Lib.repeatL [c] n = List.replicate n c := by
  induction n with
  | zero => rfl
  | succ n ih => rw [Lib.repeatL, ih, List.replicate_succ]; rfl
theorem repeat_is (c : UInt8) {n : Int} (h0 : 0 ≤ n) (h1 : n ≤ 1000000) : strings_Repeat.f (⟨#[c]⟩ : ByteArray) n = some (B (List.replicate n.toNat c)) := by
  unfold strings_Repeat.f
  have hs : (⟨#[c]⟩ : ByteArray).size = 1 := rfl
  rw [if_pos ⟨h0, by omega, by rw [hs]; omega⟩]
  congr 1
  show B (Lib.repeatL [c] n.toNat) = _
  rw [rep1]
theorem stars_is {w : Int} (h0 : -1000 ≤ w) (h1 : w ≤ 1000) : texts_stars.f w = some (B (List.replicate (max w.natAbs 1) 42)) := by
  unfold texts_stars.f
  rw [t64 (by omega) (by omega), repeat_is 42 (by unfold mx; split <;> split <;> omega) (by unfold mx; split <;> split <;> omega)]
  simp only [Option.bind_some]
  congr 3
  unfold mx; split <;> split <;> omega
theorem magnitude_is {n : Int} (h : I64t n) : texts_magnitude.f n = some (B (Lib.decDigits n.natAbs)) := by
  unfold texts_magnitude.f strconv_FormatInt_72.f
  rw [if_pos ⟨h.1, h.2, rfl⟩]
  simp only [Option.bind_some]
  unfold strings_TrimPrefix.f
  simp only [Option.bind_some]
  congr 1
  show B (Lib.trimPrefix (Lib.itoa n) [45]) = _
  congr 1
  unfold Lib.trimPrefix Lib.hasPrefix Lib.itoa
  by_cases hn : n < 0
  · rw [if_pos hn]; simp
  · rw [if_neg hn]
    have hd := dd_range n.toNat
    have hne := dd_ne n.toNat
    rw [show n.natAbs = n.toNat by omega]
    cases hl : Lib.decDigits n.toNat with
    | nil => exact absurd hl hne
    | cons c r =>
      have hc := hd c (by rw [hl]; exact List.mem_cons_self ..)
      have : ([45] : List UInt8).isPrefixOf (c :: r) = false := by
        simp [List.isPrefixOf]; intro e; rw [← e] at hc; exact absurd hc.1 (by decide)
      rw [this]; simp
structure Fine (l : List UInt8) : Prop where
  ne : l ≠ []
  star : ∀ c ∈ l, c ≠ 42
  head : ∀ c r, l = c :: r → c ≠ 32
def Good (w : Int) (l : List UInt8) : Prop := (l = List.replicate (max w.natAbs 1) 42) ∨ (l = [42]) ∨ (l ≠ [] ∧ (∀ c ∈ l, c ≠ 42) ∧ (w = 0 → ∀ c r, l = c :: r → c ≠ 32) ∧ (w ≠ 0 → l.length = w.natAbs))
theorem filled_is {w : Int} (h0 : -1000 ≤ w) (h1 : w ≤ 1000) {l : List UInt8} (hl : Fine l) (hs : l.length ≤ 1000000) :
    (∃ u, texts_filled.f (B l) w = some (B u, true) ∧ Good w u) ∨ (texts_filled.f (B l) w = some (B [], false) ∧ w ≠ 0) := by
  unfold texts_filled.f
  by_cases hw : w = 0
  · rw [if_pos hw]
    exact .inl ⟨l, rfl, .inr (.inr ⟨hl.ne, hl.star, fun _ => hl.head, fun h => absurd hw h⟩)⟩
  · rw [if_neg hw, B_size, t64 (n := -w) (by omega) (by omega)]
    have hm : mx w (-w) = (w.natAbs : Int) := by unfold mx; split <;> omega
    rw [hm]
    by_cases hg : (l.length : Int) > (w.natAbs : Int)
    · rw [if_pos hg]; exact .inr ⟨rfl, hw⟩
    · rw [if_neg hg, t64 (by omega) (by omega), repeat_is 32 (by omega) (by omega)]
      simp only [Option.bind_some]
      rw [B_size, List.length_replicate, if_pos (by omega), B_app]
      refine .inl ⟨_, rfl, .inr (.inr ⟨?_, ?_, fun h => absurd h hw, fun _ => ?_⟩)⟩
      · intro h; exact hl.ne (List.append_eq_nil_iff.1 h).2
      · intro c hc
        rcases List.mem_append.1 hc with hc | hc
        · rw [List.mem_replicate] at hc; rw [hc.2]; decide
        · exact hl.star c hc
      · rw [List.length_append, List.length_replicate]; omega
theorem sign_is (neg : Bool) (w : Int) : ∃ l, texts_sign.f neg w = some (B l) ∧ l.length ≤ 1 ∧ ∀ c ∈ l, c ≠ 42 ∧ c ≠ 32 := by
  unfold texts_sign.f
  split
  · exact ⟨[45], rfl, by simp, by simp⟩
  · split
    · exact ⟨[43], rfl, by simp, by simp⟩
    · exact ⟨[], rfl, by simp, by simp⟩
theorem fine_app {l r : List UInt8} (hl : ∀ c ∈ l, c ≠ 42 ∧ c ≠ 32) (hr : Fine r) : Fine (l ++ r) := by
  refine ⟨fun h => hr.ne (List.append_eq_nil_iff.1 h).2, fun c hc => ?_, fun c t e => ?_⟩
  · rcases List.mem_append.1 hc with hc | hc
    · exact (hl c hc).1
    · exact hr.star c hc
  · cases l with
    | nil => exact hr.head c t e
    | cons d l' =>
      rw [List.cons_append, List.cons.injEq] at e
      rw [← e.1]; exact (hl d (List.mem_cons_self ..)).2
theorem fine_digits {l : List UInt8} (hn : l ≠ []) (h : ∀ c ∈ l, 46 ≤ c.toNat ∧ c.toNat ≤ 57) : Fine l := by
  have hx : ∀ c : UInt8, 46 ≤ c.toNat → c ≠ 42 ∧ c ≠ 32 := fun c hc => ⟨by rintro rfl; exact absurd hc (by decide), by rintro rfl; exact absurd hc (by decide)⟩
  exact ⟨hn, fun c hc => (hx c (h c hc).1).1, fun c r e => (hx c (h c (by rw [e]; exact List.mem_cons_self ..)).1).2⟩
theorem stars_good {w : Int} (h0 : -1000 ≤ w) (h1 : w ≤ 1000) : ∃ u, texts_stars.f w = some (B u) ∧ Good w u := ⟨_, stars_is h0 h1, .inl rfl⟩
theorem wide_no {w : Int} (h0 : -1000 ≤ w) (h1 : w ≤ 1000) : texts_wide.f w = some false := by
  unfold texts_wide.f; rw [if_neg (by omega), decide_eq_false (by omega)]
theorem wide_yes {w : Int} (h : ¬ (-1000 ≤ w ∧ w ≤ 1000)) : texts_wide.f w = some true := by
  unfold texts_wide.f
  by_cases h1 : w > 1000
  · rw [if_pos h1]
  · rw [if_neg h1, decide_eq_true (by omega)]
theorem good_len {w : Int} {u : List UInt8} (h0 : -1000 ≤ w) (h1 : w ≤ 1000) (h : Good w u) (hw : w ≠ 0) : u.length ≤ 1000 := by
  rcases h with rfl | rfl | h
  · rw [List.length_replicate]; omega
  · simp
  · have := h.2.2.2 hw; omega
theorem whole_good {n w : Int} (hn : I64t n) : ∃ u, texts_Whole.f n w = some (B u) ∧ Good w u ∧ u.length ≤ 1000 := by
  unfold texts_Whole.f
  by_cases hw : -1000 ≤ w ∧ w ≤ 1000
  · rw [wide_no hw.1 hw.2]
    obtain ⟨sg, hsg, hl1, hsc⟩ := sign_is (decide (n < 0)) w
    have hd := dd_range n.natAbs
    have hf : Fine (sg ++ Lib.decDigits n.natAbs) := fine_app hsc (fine_digits (dd_ne _) (fun c hc => ⟨by have := (hd c hc).1; omega, (hd c hc).2⟩))
    have hlen := dd_len n.natAbs 18 (by unfold I64t at hn; omega)
    have hlen2 : (sg ++ Lib.decDigits n.natAbs).length ≤ 20 := by rw [List.length_append]; omega
    simp only [Option.bind_some, Bool.false_eq_true, if_false, hsg, magnitude_is hn, B_size]
    rw [if_pos (by omega), B_app]
    rcases filled_is hw.1 hw.2 hf (by omega) with ⟨u, hu, hg⟩ | ⟨hu, hz⟩
    · rw [hu]; simp only [Option.bind_some, if_true]
      refine ⟨u, rfl, hg, ?_⟩
      by_cases h0 : w = 0
      · subst h0
        have : texts_filled.f (B (sg ++ Lib.decDigits n.natAbs)) 0 = some (B (sg ++ Lib.decDigits n.natAbs), true) := by unfold texts_filled.f; rw [if_pos rfl]
        rw [this] at hu
        simp only [Option.some.injEq, Prod.mk.injEq, and_true] at hu
        rw [← B_inj hu]; omega
      · exact good_len hw.1 hw.2 hg h0
    · rw [hu]; simp only [Option.bind_some, Bool.false_eq_true, if_false]
      obtain ⟨u, h1, h2⟩ := stars_good hw.1 hw.2
      rw [h1]; exact ⟨u, rfl, h2, good_len hw.1 hw.2 h2 hz⟩
  · rw [wide_yes hw]
    simp only [Option.bind_some, if_true]
    rw [stars_is (w := 0) (by decide) (by decide)]
    exact ⟨[42], rfl, .inr (.inl rfl), by simp⟩
theorem B_extract (l : List UInt8) (i j : Nat) : (B l).extract i j = B ((l.drop i).take (j - i)) := by
  apply ByteArray.ext
  rw [ByteArray.data_extract]
  show l.toArray.extract i j = ((l.drop i).take (j - i)).toArray
  rw [List.extract_toArray]
theorem B_bt {l : List UInt8} {c : UInt8} {r : List UInt8} (h : l = c :: r) : bt (B l) 0 = (c.toNat : Int) := by
  subst h
  have := bt_at (B (c :: r)) 0 (by rw [B_size]; simp)
  rw [← this]; rfl
def Digs (l : List UInt8) : Prop := ∀ c ∈ l, 48 ≤ c.toNat ∧ c.toNat ≤ 57
theorem Digs.app {l r : List UInt8} (hl : Digs l) (hr : Digs r) : Digs (l ++ r) := fun c hc => (List.mem_append.1 hc).elim (hl c) (hr c)
theorem Digs.take {l : List UInt8} (h : Digs l) (n : Nat) : Digs (l.take n) := fun c hc => h c (List.mem_of_mem_take hc)
theorem Digs.zeros (n : Nat) : Digs (List.replicate n 48) := fun c hc => by rw [List.mem_replicate] at hc; rw [hc.2]; decide
theorem dw_sub (l : List UInt8) (p : UInt8 → Bool) : ∀ c ∈ l.dropWhile p, c ∈ l := fun c hc => (List.dropWhile_sublist p).subset hc
theorem Digs.dw {l : List UInt8} (h : Digs l) (p : UInt8 → Bool) : Digs (l.dropWhile p) := fun c hc => h c (dw_sub l p c hc)
theorem more_digs : ∀ {l : List UInt8}, Digs l → Digs (moreR l)
  | [], _ => fun c hc => by rw [moreR, List.mem_singleton] at hc; subst hc; decide
  | d :: r, h => by
    have hd := h d (List.mem_cons_self ..)
    have hr : Digs r := fun c hc => h c (List.mem_cons_of_mem _ hc)
    intro c hc
    rw [moreR] at hc
    split at hc
    · rcases List.mem_cons.1 hc with rfl | hc
      · rw [UInt8.toNat_add]; simp; omega
      · exact hr c hc
    · rcases List.mem_cons.1 hc with rfl | hc
      · decide
      · exact more_digs hr c hc
theorem more_some : ∀ {l : List UInt8}, Digs l → ∃ c ∈ moreR l, c ≠ 48
  | [], _ => ⟨49, by rw [moreR]; exact List.mem_singleton.2 rfl, by decide⟩
  | d :: r, h => by
    have hd := h d (List.mem_cons_self ..)
    rw [moreR]
    split
    · refine ⟨d + 1, List.mem_cons_self .., fun e => ?_⟩
      have := congrArg UInt8.toNat e
      rw [UInt8.toNat_add] at this; simp at this; omega
    · obtain ⟨c, hc, hn⟩ := more_some (l := r) (fun c hc => h c (List.mem_cons_of_mem _ hc))
      exact ⟨c, List.mem_cons_of_mem _ hc, hn⟩
theorem more_len : ∀ l : List UInt8, (moreR l).length ≤ l.length + 1
  | [] => by simp [moreR]
  | d :: r => by
    rw [moreR]; split
    · simp
    · have := more_len r; simp; omega
theorem moreS_digs {l : List UInt8} (h : Digs l) : Digs (moreS l) := by
  unfold moreS
  intro c hc
  exact more_digs (fun d hd => h d (List.mem_reverse.1 hd)) c (List.mem_reverse.1 hc)
theorem moreS_some {l : List UInt8} (h : Digs l) : ∃ c ∈ moreS l, c ≠ 48 := by
  unfold moreS
  obtain ⟨c, hc, hn⟩ := more_some (l := l.reverse) (fun d hd => h d (List.mem_reverse.1 hd))
  exact ⟨c, List.mem_reverse.2 hc, hn⟩
theorem moreS_len (l : List UInt8) : (moreS l).length ≤ l.length + 1 := by
  unfold moreS; rw [List.length_reverse]; have := more_len l.reverse; rw [List.length_reverse] at this; exact this
theorem dw_all : ∀ l : List UInt8, l.dropWhile (([48] : List UInt8).contains ·) = [] → ∀ c ∈ l, c = 48
  | [], _, c, hc => by cases hc
  | d :: r, h, c, hc => by
    rw [List.dropWhile_cons] at h
    by_cases hd : ([48] : List UInt8).contains d = true
    · rw [if_pos hd] at h
      rcases List.mem_cons.1 hc with rfl | hc
      · simpa using hd
      · exact dw_all r h c hc
    · rw [if_neg hd] at h; cases h
theorem dw_ne {l : List UInt8} (h : ∃ c ∈ l, c ≠ 48) : l.dropWhile (([48] : List UInt8).contains ·) ≠ [] := by
  obtain ⟨c, hc, hn⟩ := h
  intro h0
  exact hn (dw_all l h0 c hc)
theorem dw_len (l : List UInt8) (p : UInt8 → Bool) : (l.dropWhile p).length ≤ l.length := (List.dropWhile_sublist p).length_le
theorem tl_is {l : List UInt8} (h : l.length ≤ 1000000) : strings_TrimLeft.f (B l) (⟨#[48]⟩ : ByteArray) = some (B (l.dropWhile (([48] : List UInt8).contains ·))) := by
  unfold strings_TrimLeft.f
  rw [if_pos ⟨by decide, by rw [B_size]; omega⟩]; rfl
theorem more_is {l : List UInt8} (h : l.length ≤ 1000000) : texts_more.f (B l) = some (B (moreS l)) := by
  unfold texts_more.f; rw [if_pos (by rw [B_size]; omega)]; rfl
def scaledL (m : Int) (k : Int) : List UInt8 :=
  let D := Lib.decDigits m.natAbs
  if 0 ≤ k then (D ++ List.replicate k.toNat 48).dropWhile (([48] : List UInt8).contains ·)
  else if (D.length : Int) < -k then []
  else if 53 ≤ ((D.drop (D.length - (-k).toNat)).headD 0).toNat then (moreS (48 :: D.take (D.length - (-k).toNat))).dropWhile (([48] : List UInt8).contains ·)
  else (D.take (D.length - (-k).toNat)).dropWhile (([48] : List UInt8).contains ·)
theorem sc_is {m e a : Int} (hm : I64t m) (hk0 : -100000 ≤ e + a) (hk1 : e + a ≤ 100000) : texts_scaled.f m e a = some (B (scaledL m (e + a))) := by
  unfold texts_scaled.f scaledL
  rw [magnitude_is hm]
  have hlen := dd_len m.natAbs 18 (by unfold I64t at hm; omega)
  have hlen0 : 1 ≤ (Lib.decDigits m.natAbs).length := List.length_pos_iff.2 (dd_ne _)
  have hkw := t64 (n := e + a) (by omega) (by omega)
  generalize e + a = k at *
  simp only [Option.bind_some, hkw]
  generalize Lib.decDigits m.natAbs = D at *
  by_cases h0 : 0 ≤ k
  · rw [if_pos (show k ≥ 0 from h0), if_pos h0, repeat_is 48 h0 (by omega)]
    simp only [Option.bind_some]
    rw [B_size, B_size, List.length_replicate, if_pos (by omega), B_app, tl_is (by rw [List.length_append, List.length_replicate]; omega)]
    rfl
  · rw [if_neg (show ¬ k ≥ 0 from h0), if_neg h0]
    have hn : wrap64 (-k) = -k := t64 (by omega) (by omega)
    rw [hn, B_size]
    by_cases hd : (D.length : Int) < -k
    · rw [if_pos (show -k > (D.length : Int) from hd), if_pos hd]; rfl
    · rw [if_neg (show ¬ -k > (D.length : Int) from hd), if_neg hd]
      have hw : wrap64 ((D.length : Int) - -k) = ((D.length - (-k).toNat : Nat) : Int) := by rw [t64 (by omega) (by omega)]; omega
      rw [hw]
      have hp : D.length - (-k).toNat < D.length := by omega
      generalize D.length - (-k).toNat = p at *
      rw [if_pos (by omega), if_pos (by omega), Int.toNat_natCast]
      simp only [B_extract, List.drop_zero, Nat.sub_zero]
      have hdl : (D.drop p).take (D.length - p) = D.drop p := List.take_of_length_le (by rw [List.length_drop]; exact Nat.le_refl _)
      rw [hdl]
      obtain ⟨c, r, hcr⟩ : ∃ c r, D.drop p = c :: r := by
        cases hx : D.drop p with
        | nil => have := congrArg List.length hx; rw [List.length_drop] at this; simp at this; omega
        | cons c r => exact ⟨c, r, rfl⟩
      rw [B_size, B_size, B_bt hcr]
      have hl : (0 : Int) < ((D.drop p).length : Int) := by rw [List.length_drop]; omega
      rw [if_pos hl]
      have hhd : (D.drop p).headD 0 = c := by rw [hcr]; rfl
      rw [hhd]
      have htl : (D.take p).length ≤ 20 := by rw [List.length_take]; omega
      by_cases h53 : 53 ≤ c.toNat
      · rw [if_pos (show (c.toNat : Int) ≥ 53 by omega), if_pos h53, if_pos (by omega)]
        have e1 : (⟨#[48]⟩ : ByteArray) ++ B (D.take p) = B (48 :: D.take p) := B_app [48] (D.take p)
        rw [e1, more_is (by simp; omega)]
        simp only [Option.bind_some]
        rw [tl_is (by have := moreS_len (48 :: D.take p); simp at this; omega)]; rfl
      · rw [if_neg (show ¬ (c.toNat : Int) ≥ 53 by omega), if_neg h53, tl_is (by omega)]; rfl
theorem scaledL_digs (m k : Int) : Digs (scaledL m k) := by
  have hd : Digs (Lib.decDigits m.natAbs) := dd_range _
  unfold scaledL
  dsimp only
  split
  · exact (hd.app (Digs.zeros _)).dw _
  · split
    · intro c hc; cases hc
    · split
      · refine (moreS_digs ?_).dw _
        intro c hc
        rcases List.mem_cons.1 hc with rfl | hc
        · decide
        · exact (hd.take _) c hc
      · exact (hd.take _).dw _
theorem scaledL_len {m k : Int} (hm : I64t m) (hk : k ≤ 100000) : (scaledL m k).length ≤ 100100 := by
  have hlen := dd_len m.natAbs 18 (by unfold I64t at hm; omega)
  unfold scaledL
  dsimp only
  split
  · have := dw_len (Lib.decDigits m.natAbs ++ List.replicate k.toNat 48) (([48] : List UInt8).contains ·)
    rw [List.length_append, List.length_replicate] at this; omega
  · split
    · simp
    · split
      · have h1 := dw_len (moreS (48 :: (Lib.decDigits m.natAbs).take ((Lib.decDigits m.natAbs).length - (-k).toNat))) (([48] : List UInt8).contains ·)
        have h2 := moreS_len (48 :: (Lib.decDigits m.natAbs).take ((Lib.decDigits m.natAbs).length - (-k).toNat))
        rw [List.length_cons, List.length_take] at h2; omega
      · have h1 := dw_len ((Lib.decDigits m.natAbs).take ((Lib.decDigits m.natAbs).length - (-k).toNat)) (([48] : List UInt8).contains ·)
        rw [List.length_take] at h1; omega
theorem scaledL_ne {m k : Int} (h0 : m.natAbs ≠ 0) (hk : -((Lib.decDigits m.natAbs).length : Int) < k) : scaledL m k ≠ [] := by
  obtain ⟨c, r, hcr, hc⟩ := dd_head h0
  have h48 : c ≠ 48 := by rintro rfl; exact absurd hc (by decide)
  have hd : Digs (Lib.decDigits m.natAbs) := dd_range _
  unfold scaledL
  dsimp only
  split
  · exact dw_ne ⟨c, List.mem_append_left _ (by rw [hcr]; exact List.mem_cons_self ..), h48⟩
  · split
    · omega
    · have hp : ∃ q, (Lib.decDigits m.natAbs).length - (-k).toNat = q + 1 := ⟨(Lib.decDigits m.natAbs).length - (-k).toNat - 1, by omega⟩
      obtain ⟨q, hq⟩ := hp
      rw [hq]
      split
      · exact dw_ne (moreS_some (fun d hd2 => by
          rcases List.mem_cons.1 hd2 with rfl | hd2
          · decide
          · exact (hd.take _) d hd2))
      · exact dw_ne ⟨c, by rw [hcr, List.take_succ_cons]; exact List.mem_cons_self .., h48⟩
theorem hl_small {n : Nat} (h : n < 18446744073709551616) : hiw n = 0 ∧ low n = (n : Int) := by
  unfold hiw low; omega
theorem mag_is {m : Int} (h : I64t m) : reals_magnitude.f m = some (hiw m.natAbs, low m.natAbs) := by
  have hs := hl_small (n := m.natAbs) (by unfold I64t at h; omega)
  rw [hs.1, hs.2]
  unfold reals_magnitude.f
  unfold I64t at h
  simp only [IntKind.wrap_u64]
  split
  · congr 2; omega
  · congr 2; omega
theorem dig_is {m : Int} (h : I64t m) : ∃ d, reals_wide_digits.f (hiw m.natAbs) (low m.natAbs) = some d := by
  unfold reals_wide_digits.f
  have hn : m.natAbs < 340282366920938463463374607431768211456 := by unfold I64t at h; omega
  rw [if_pos (hl_u hn)]; exact ⟨_, rfl⟩
def padL (S : List UInt8) (a : Nat) : List UInt8 := if S.length ≤ a then List.replicate (a + 1 - S.length) 48 ++ S else S
theorem padL_digs {S : List UInt8} (h : Digs S) (a : Nat) : Digs (padL S a) := by
  unfold padL; split
  · exact (Digs.zeros _).app h
  · exact h
theorem padL_len (S : List UInt8) (a : Nat) : a + 1 ≤ (padL S a).length ∧ (padL S a).length ≤ max (a + 1) S.length := by
  unfold padL; split
  · rw [List.length_append, List.length_replicate]; omega
  · omega
def pointL (T : List UInt8) (a : Nat) : List UInt8 := if a = 0 then T else T.take (T.length - a) ++ 46 :: T.drop (T.length - a)
theorem pointL_len {T : List UInt8} {a : Nat} (h : a + 1 ≤ T.length) : (pointL T a).length = if a = 0 then T.length else T.length + 1 := by
  unfold pointL; split
  · rfl
  · rw [List.length_append, List.length_cons, List.length_take, List.length_drop]; omega
theorem point_end {T : List UInt8} {a : Nat} (h : a + 1 ≤ T.length) (h1 : T.length ≤ 200000) :
    (if ((a : Nat) : Int) = 0 then some (B T) else (if 0 ≤ (wrap64 (((B T).size : Int) - (a : Int))) then (if (wrap64 (((B T).size : Int) - (a : Int))) ≤ ((B T).size : Int) then (if ((B T).extract 0 ((wrap64 (((B T).size : Int) - (a : Int))) : Int).toNat).size + 1 ≤ 9223372036854775807 then (if (((B T).extract 0 ((wrap64 (((B T).size : Int) - (a : Int))) : Int).toNat) ++ (⟨#[46]⟩ : ByteArray)).size + ((B T).extract ((wrap64 (((B T).size : Int) - (a : Int))) : Int).toNat (B T).size).size ≤ 9223372036854775807 then (some ((((B T).extract 0 ((wrap64 (((B T).size : Int) - (a : Int))) : Int).toNat) ++ (⟨#[46]⟩ : ByteArray)) ++ ((B T).extract ((wrap64 (((B T).size : Int) - (a : Int))) : Int).toNat (B T).size))) else (none)) else (none)) else (none)) else (none))) = some (B (pointL T a)) := by
  unfold pointL
  by_cases h0 : a = 0
  · rw [if_pos (by omega), if_pos h0]
  · rw [if_neg (by omega), if_neg h0, B_size]
    have hw : wrap64 ((T.length : Int) - (a : Int)) = ((T.length - a : Nat) : Int) := by rw [t64 (by omega) (by omega)]; omega
    rw [hw]
    have hp : T.length - a ≤ T.length := by omega
    generalize T.length - a = p at *
    rw [if_pos (by omega), if_pos (by omega), Int.toNat_natCast]
    simp only [B_extract, List.drop_zero, Nat.sub_zero]
    have hdl : (T.drop p).take (T.length - p) = T.drop p := List.take_of_length_le (by rw [List.length_drop]; exact Nat.le_refl _)
    have e46 : (⟨#[46]⟩ : ByteArray) = B [46] := rfl
    rw [hdl, e46, B_app, B_size, B_size, B_size, if_pos (by rw [List.length_take]; omega), if_pos (by rw [List.length_append, List.length_take, List.length_drop, List.length_singleton]; omega), B_app]
    rw [List.append_assoc]; rfl
theorem pointed_is {m e : Int} {a : Nat} (hm : I64t m) (hk0 : -100000 ≤ e + a) (hk1 : e + a ≤ 100000) (ha : a ≤ 1000) : texts_pointed.f m e a = some (B (pointL (padL (scaledL m (e + a)) a) a)) := by
  have hS := scaledL_len hm hk1
  have hL := padL_len (scaledL m (e + a)) a
  unfold texts_pointed.f
  rw [sc_is hm hk0 hk1]
  simp only [Option.bind_some]
  generalize scaledL m (e + a) = S at *
  have hpe := point_end (T := padL S a) (a := a) hL.1 (by omega)
  unfold padL at hpe ⊢
  by_cases h : S.length ≤ a
  · rw [if_pos h] at hpe ⊢
    have hB : (B S).size = S.length := B_size S
    rw [if_pos (by rw [hB]; omega), hB, t64 (n := (a : Int) + 1) (by omega) (by omega), t64 (by omega) (by omega), repeat_is 48 (by omega) (by omega)]
    simp only [Option.bind_some]
    have hn : ((a : Int) + 1 - (S.length : Int)).toNat = a + 1 - S.length := by omega
    rw [hn, B_app, B_size, List.length_replicate, if_pos (by omega)]
    exact hpe
  · rw [if_neg h] at hpe ⊢
    rw [if_neg (by rw [B_size]; omega)]
    exact hpe
theorem rsize_is {w : Int} (h0 : -1000 ≤ w) (h1 : w ≤ 1000) : environref03_size.f w = some (w.natAbs : Int) := by
  unfold environref03_size.f
  by_cases h : w < 0
  · rw [if_pos h, t64 (by omega) (by omega)]; congr 1; omega
  · rw [if_neg h]; congr 1; omega
theorem rwide_no {w : Int} (h0 : -1000 ≤ w) (h1 : w ≤ 1000) : environref03_wide.f w = some false := by
  unfold environref03_wide.f; rw [if_neg (by omega), decide_eq_false (by omega)]
theorem rwide_yes {w : Int} (h : ¬ (-1000 ≤ w ∧ w ≤ 1000)) : environref03_wide.f w = some true := by
  unfold environref03_wide.f
  by_cases h1 : w > 1000
  · rw [if_pos h1]
  · rw [if_neg h1, decide_eq_true (by omega)]
theorem rsign_is (b : Bool) (w : Int) : environref03_sign.f b w = texts_sign.f b w := rfl
theorem rrep_loop (c : Int) (n : Nat) (hn : n ≤ 1000000) : ∀ (r i k : Nat), r + i = n → r + 1 ≤ k →
    environref03_repeat.l0 k c n (List.replicate i c ++ List.replicate r 0) i = some (strOfNums (List.replicate n c)) := by
  intro r
  induction r with
  | zero =>
    intro i k hi hk
    obtain ⟨k, rfl⟩ : ∃ j, k = j + 1 := ⟨k - 1, by omega⟩
    obtain rfl : i = n := by omega
    simp only [environref03_repeat.l0]
    rw [if_neg (by omega), List.replicate_zero, List.append_nil]
  | succ r ih =>
    intro i k hi hk
    obtain ⟨k, rfl⟩ : ∃ j, k = j + 1 := ⟨k - 1, by omega⟩
    simp only [environref03_repeat.l0]
    rw [if_pos (by omega), if_pos (by omega), if_pos (by rw [List.length_append, List.length_replicate, List.length_replicate]; omega), t64 (by omega) (by omega), Int.toNat_natCast]
    have : (List.replicate i c ++ List.replicate (r + 1) 0).set i c = List.replicate (i + 1) c ++ List.replicate r 0 := by
      rw [List.set_append_right _ _ (by rw [List.length_replicate]; exact Nat.le_refl _), List.length_replicate, Nat.sub_self, List.replicate_succ, List.set_cons_zero, List.replicate_succ', List.append_assoc]; rfl
    rw [this]
    have := ih (i + 1) k (by omega) (by omega)
    rw [← this]; rfl
theorem rrep_is {c n : Int} (h0 : 0 ≤ n) (h1 : n ≤ 1000000) (k : Nat) (hk : n.toNat + 1 ≤ k) : environref03_repeat.f k c n = some (strOfNums (List.replicate n.toNat c)) := by
  unfold environref03_repeat.f
  rw [if_pos h0, if_pos (by omega)]
  have := rrep_loop c n.toNat (by omega) n.toNat 0 k (by omega) hk
  rw [← this, List.replicate_zero, List.nil_append, Int.toNat_of_nonneg h0]; rfl
theorem strs_rep (n : Nat) (c : Nat) (hc : c < 256) : strOfNums (List.replicate n (c : Int)) = B (List.replicate n (UInt8.ofNat c)) := by
  unfold strOfNums B
  rw [List.map_replicate]; rfl
def fillL (w : Int) (l : List UInt8) : List UInt8 := if w = 0 then l else if l.length ≤ w.natAbs then List.replicate (w.natAbs - l.length) 32 ++ l else List.replicate w.natAbs 42
theorem rfill_is {w : Int} (h0 : -1000 ≤ w) (h1 : w ≤ 1000) {l : List UInt8} (hl : l.length ≤ 1000000) (k : Nat) (hk : 1002 ≤ k) : environref03_fill.f k (B l) w = some (B (fillL w l)) := by
  unfold environref03_fill.f fillL
  by_cases hw : w = 0
  · rw [if_pos hw, if_pos hw]
  · rw [if_neg hw, if_neg hw, rsize_is h0 h1]
    simp only [Option.bind_some]
    rw [B_size]
    by_cases h : l.length ≤ w.natAbs
    · rw [if_pos (by omega), if_pos h, t64 (by omega) (by omega), rrep_is (by omega) (by omega) k (by omega)]
      simp only [Option.bind_some]
      have hn : ((w.natAbs : Int) - (l.length : Int)).toNat = w.natAbs - l.length := by omega
      have e := strs_rep (w.natAbs - l.length) 32 (by decide)
      rw [hn, show (32 : Int) = ((32 : Nat) : Int) from rfl, e, B_size, List.length_replicate, if_pos (by omega), B_app]; rfl
    · rw [if_neg (by omega), if_neg h, rrep_is (by omega) (by omega) k (by omega)]
      simp only [Option.bind_some]
      have e := strs_rep w.natAbs 42 (by decide)
      rw [Int.toNat_natCast, show (42 : Int) = ((42 : Nat) : Int) from rfl, e]; rfl
theorem filled_ex {w : Int} (h0 : -1000 ≤ w) (h1 : w ≤ 1000) {l : List UInt8} (hl : l.length ≤ 1000000) :
    texts_filled.f (B l) w = if w = 0 ∨ l.length ≤ w.natAbs then some (B (fillL w l), true) else some (B [], false) := by
  unfold texts_filled.f fillL
  by_cases hw : w = 0
  · rw [if_pos hw, if_pos (.inl hw), if_pos hw]
  · rw [if_neg hw, if_neg hw, B_size, t64 (n := -w) (by omega) (by omega)]
    have hm : mx w (-w) = (w.natAbs : Int) := by unfold mx; split <;> omega
    rw [hm]
    by_cases hg : l.length ≤ w.natAbs
    · rw [if_neg (by omega), if_pos (.inr hg), if_pos hg, t64 (by omega) (by omega), repeat_is 32 (by omega) (by omega)]
      simp only [Option.bind_some]
      have hn : ((w.natAbs : Int) - (l.length : Int)).toNat = w.natAbs - l.length := by omega
      rw [hn, B_size, List.length_replicate, if_pos (by omega), B_app]
    · rw [if_pos (by omega), if_neg (by rintro (h | h) <;> omega)]; rfl
def lowD (u : Nat) : List Int := if u = 0 then [] else ((Lib.decDigits u).map fun c => (c.toNat : Int) - 48).reverse
theorem lowD_step {u : Nat} (h : u ≠ 0) : lowD u = ((u % 10 : Nat) : Int) :: lowD (u / 10) := by
  unfold lowD
  rw [if_neg h]
  rw [Lib.decDigits]
  by_cases h9 : u < 10
  · rw [dif_pos h9, if_pos (by omega)]
    have : ((UInt8.ofNat (48 + u)).toNat : Int) - 48 = ((u % 10 : Nat) : Int) := by
      rw [UInt8.toNat_ofNat', Nat.mod_eq_of_lt (by omega)]; omega
    simpa using this
  · rw [dif_neg h9, if_neg (by omega), List.map_append, List.reverse_append]
    have : ((UInt8.ofNat (48 + u % 10)).toNat : Int) - 48 = ((u % 10 : Nat) : Int) := by
      rw [UInt8.toNat_ofNat', Nat.mod_eq_of_lt (by omega)]; omega
    simpa using this
theorem of_loop : ∀ (j k : Nat) (x : Int) (acc : List Int), I64t x → x.natAbs < 10 ^ j → j ≤ 20 → j + 1 ≤ k → acc.length + j ≤ 40 → environref02_Of.l0 k x acc = some (acc ++ lowD x.natAbs) := by
  intro j
  induction j with
  | zero =>
    intro k x acc hx hj _ hk _
    obtain ⟨k, rfl⟩ : ∃ q, k = q + 1 := ⟨k - 1, by omega⟩
    simp only [environref02_Of.l0]
    have : x = 0 := by rw [Nat.pow_zero] at hj; omega
    rw [if_pos this]; subst this; unfold lowD; simp
  | succ j ih =>
    intro k x acc hx hj hj2 hk ha
    obtain ⟨k, rfl⟩ : ∃ q, k = q + 1 := ⟨k - 1, by omega⟩
    simp only [environref02_Of.l0]
    unfold I64t at hx
    by_cases h0 : x = 0
    · rw [if_pos h0]; subst h0; unfold lowD; simp
    · rw [if_neg h0]
      have hdiv : wrap64 (Int.tdiv x 10) = Int.tdiv x 10 ∧ (Int.tdiv x 10).natAbs = x.natAbs / 10 ∧ I64t (Int.tdiv x 10) := by
        have h1 : (Int.tdiv x 10).natAbs = x.natAbs / 10 := by rw [Int.natAbs_tdiv]; rfl
        exact ⟨t64 (by omega) (by omega), h1, by unfold I64t; omega⟩
      have hmod : (Int.tmod x 10).natAbs = x.natAbs % 10 := by rw [Int.natAbs_tmod]; rfl
      have hrec := fun a : Int => ih k (Int.tdiv x 10) (acc ++ [a]) hdiv.2.2 (by rw [hdiv.2.1]; rw [Nat.pow_succ] at hj; omega) (by omega) (by omega) (by rw [List.length_append, List.length_singleton]; omega)
      have hst := lowD_step (u := x.natAbs) (by omega)
      rw [hst, hdiv.1]
      by_cases hm : Int.tmod x 10 < 0
      · have : wrap64 (-(Int.tmod x 10)) = ((x.natAbs % 10 : Nat) : Int) := by rw [t64 (by omega) (by omega)]; omega
        rw [if_pos hm, if_pos (by omega), this, hrec, hdiv.2.1, List.append_assoc]; rfl
      · have : Int.tmod x 10 = ((x.natAbs % 10 : Nat) : Int) := by omega
        rw [if_neg hm, if_pos (by omega), this, hrec, hdiv.2.1, List.append_assoc]; rfl
theorem of_is {x : Int} (hx : I64t x) (k : Nat) (hk : 21 ≤ k) : environref02_Of.f k x = some (lowD x.natAbs) := by
  unfold environref02_Of.f
  rw [of_loop 20 k x [] hx (by unfold I64t at hx; omega) (by decide) hk (by decide)]; rfl
def txtD (l : List Int) : List UInt8 := (l.reverse).map fun d => UInt8.ofNat (48 + d.toNat)
theorem txt_low {u : Nat} (h : u ≠ 0) : txtD (lowD u) = Lib.decDigits u := by
  unfold txtD lowD
  rw [if_neg h, List.reverse_reverse, List.map_map]
  have := dd_range u
  generalize Lib.decDigits u = l at *
  induction l with
  | nil => rfl
  | cons c r ih =>
    rw [List.map_cons, ih (fun d hd => this d (List.mem_cons_of_mem _ hd))]
    have hc := this c (List.mem_cons_self ..)
    congr 1
    show UInt8.ofNat (48 + ((c.toNat : Int) - 48).toNat) = c
    rw [show 48 + ((c.toNat : Int) - 48).toNat = c.toNat by omega, UInt8.ofNat_toNat]
def Dig (l : List Int) : Prop := ∀ d ∈ l, 0 ≤ d ∧ d ≤ 9
theorem lowD_dig (u : Nat) : Dig (lowD u) := by
  unfold lowD
  split
  · intro d hd; cases hd
  · intro d hd
    rw [List.mem_reverse, List.mem_map] at hd
    obtain ⟨c, hc, rfl⟩ := hd
    have := dd_range u c hc; omega
theorem txtD_cons (d : Int) (r : List Int) : txtD (d :: r) = txtD r ++ [UInt8.ofNat (48 + d.toNat)] := by
  unfold txtD; rw [List.reverse_cons, List.map_append]; rfl
theorem txtD_len (l : List Int) : (txtD l).length = l.length := by unfold txtD; rw [List.length_map, List.length_reverse]
def decL (l : List Int) : List UInt8 := if l = [] then [48] else txtD l
theorem dec_loop (x : List Int) (hx : Dig x) (hl : x.length ≤ 200000) : ∀ (i k : Nat), i ≤ x.length → i + 1 ≤ k → environref03_decimal.l0 k x (B (txtD (x.drop i))) ((i : Int) - 1) = some (B (decL x)) := by
  intro i
  induction i with
  | zero =>
    intro k _ hk
    obtain ⟨k, rfl⟩ : ∃ q, k = q + 1 := ⟨k - 1, by omega⟩
    simp only [environref03_decimal.l0]
    rw [if_neg (by omega), List.drop_zero, B_toList]
    unfold decL
    by_cases h : x = []
    · subst h; rw [if_pos (show txtD [] = [] from rfl), if_pos rfl]; rfl
    · rw [if_neg (fun e => h (by have := congrArg List.length e; rw [txtD_len] at this; exact List.length_eq_zero_iff.1 this)), if_neg h]
  | succ i ih =>
    intro k hi hk
    obtain ⟨k, rfl⟩ : ∃ q, k = q + 1 := ⟨k - 1, by omega⟩
    simp only [environref03_decimal.l0]
    have e1 : ((i + 1 : Nat) : Int) - 1 = (i : Int) := by omega
    rw [e1, if_pos (by omega), if_pos (by omega), if_pos (by omega)]
    simp only [Option.bind_some]
    have hd := List.drop_eq_getElem_cons (show i < x.length by omega)
    have hr : rd x (i : Int) = x[i] := by
      unfold rd; rw [Int.toNat_natCast]; simp [List.getD, List.getElem?_eq_getElem (show i < x.length by omega)]
    have hb := hx x[i] (List.getElem_mem ..)
    have es : strOfNums [(48 + ((rd x (i : Int)) % 256)) % 256] = B [UInt8.ofNat (48 + (x[i]).toNat)] := by
      rw [hr, show (48 + x[i] % 256) % 256 = 48 + x[i] by omega]
      unfold strOfNums B
      rw [List.map_cons, List.map_nil, show (48 + x[i]).toNat = 48 + (x[i]).toNat by omega]
    rw [es, B_size, B_size, txtD_len, List.length_drop, if_pos (by simp; omega), B_app, ← txtD_cons, ← hd, t64 (by omega) (by omega)]
    exact ih k (by omega) (by omega)
theorem dec_is {x : List Int} (hx : Dig x) (hl : x.length ≤ 200000) (k : Nat) (hk : x.length + 1 ≤ k) : environref03_decimal.f k x = some (B (decL x)) := by
  unfold environref03_decimal.f
  rw [t64 (by omega) (by omega)]
  have := dec_loop x hx hl x.length k (Nat.le_refl _) hk
  rw [List.drop_length] at this
  exact this
theorem dec_low (u : Nat) : decL (lowD u) = Lib.decDigits u := by
  unfold decL
  by_cases h : u = 0
  · subst h; unfold lowD; rw [if_pos rfl, if_pos rfl, Lib.decDigits]; rfl
  · rw [if_neg (by rw [lowD_step h]; simp), txt_low h]
theorem lowD_len {u : Nat} (h : u < 10 ^ 19) : (lowD u).length ≤ 19 := by
  unfold lowD; split
  · simp
  · rw [List.length_reverse, List.length_map]; exact dd_len u 18 h
def wholeL (n w : Int) : List UInt8 := if -1000 ≤ w ∧ w ≤ 1000 then fillL w ((if n < 0 then [45] else if 0 < w then [43] else []) ++ Lib.decDigits n.natAbs) else [42]
def sgL (b : Bool) (w : Int) : List UInt8 := if b = true then [45] else if 0 < w then [43] else []
theorem sign_ex (b : Bool) (w : Int) : texts_sign.f b w = some (B (sgL b w)) := by
  unfold texts_sign.f sgL; split
  · rfl
  · split <;> rfl
theorem sgL_len (b : Bool) (w : Int) : (sgL b w).length ≤ 1 := by unfold sgL; split <;> (try split) <;> simp
theorem pwhole_is {n : Int} (w : Int) (hn : I64t n) : texts_Whole.f n w = some (B (wholeL n w)) := by
  unfold texts_Whole.f wholeL
  by_cases hw : -1000 ≤ w ∧ w ≤ 1000
  · rw [wide_no hw.1 hw.2, if_pos hw]
    simp only [Option.bind_some]
    rw [if_neg (by simp), sign_ex, magnitude_is hn]
    simp only [Option.bind_some]
    have hlen := dd_len n.natAbs 18 (by unfold I64t at hn; omega)
    have hs := sgL_len (decide (n < 0)) w
    have es : sgL (decide (n < 0)) w = (if n < 0 then [45] else if 0 < w then [43] else []) := by unfold sgL; simp
    rw [es] at hs ⊢
    generalize (if n < 0 then ([45] : List UInt8) else if 0 < w then [43] else []) = sg at *
    rw [B_size, B_size, if_pos (by omega), B_app, filled_ex hw.1 hw.2 (by rw [List.length_append]; omega)]
    by_cases hf : w = 0 ∨ (sg ++ Lib.decDigits n.natAbs).length ≤ w.natAbs
    · rw [if_pos hf]; simp
    · rw [if_neg hf]
      simp only [Option.bind_some]
      rw [if_neg (by simp), stars_is hw.1 hw.2]
      unfold fillL
      have h0 : w ≠ 0 := fun h => hf (.inl h)
      rw [if_neg h0, if_neg (fun h => hf (.inr h)), show max w.natAbs 1 = w.natAbs by omega]; rfl
  · rw [wide_yes hw, if_neg hw]
    simp only [Option.bind_some]
    rw [if_pos trivial, stars_is (by decide) (by decide)]; rfl
theorem rwhole_is {n : Int} (w : Int) (hn : I64t n) (k : Nat) (hk : 1100 ≤ k) : environref03_Whole.f k n w = some (B (wholeL n w)) := by
  unfold environref03_Whole.f wholeL
  by_cases hw : -1000 ≤ w ∧ w ≤ 1000
  · have hlow := lowD_len (u := n.natAbs) (by unfold I64t at hn; omega)
    rw [rwide_no hw.1 hw.2, if_pos hw]
    simp only [Option.bind_some]
    rw [if_neg (by simp), rsign_is, sign_ex, of_is hn k (by omega)]
    simp only [Option.bind_some]
    rw [dec_is (lowD_dig _) (by omega) k (by omega), dec_low]
    simp only [Option.bind_some]
    have hlen := dd_len n.natAbs 18 (by unfold I64t at hn; omega)
    have hs := sgL_len (decide (n < 0)) w
    have es : sgL (decide (n < 0)) w = (if n < 0 then [45] else if 0 < w then [43] else []) := by unfold sgL; simp
    rw [es] at hs ⊢
    generalize (if n < 0 then ([45] : List UInt8) else if 0 < w then [43] else []) = sg at *
    rw [B_size, B_size, if_pos (by omega), B_app, rfill_is hw.1 hw.2 (by rw [List.length_append]; omega) k (by omega)]; rfl
  · rw [rwide_yes hw, if_neg hw]
    simp only [Option.bind_some]
    rw [if_pos trivial]; rfl
def nx : List Int → List Int
  | [] => [1]
  | d :: r => if d < 9 then (d + 1) :: r else 0 :: nx r
theorem nx_dig : ∀ {l : List Int}, Dig l → Dig (nx l)
  | [], _ => fun d hd => by rw [nx, List.mem_singleton] at hd; omega
  | d :: r, h => by
    have hd := h d (List.mem_cons_self ..)
    intro c hc
    rw [nx] at hc
    split at hc
    · rcases List.mem_cons.1 hc with rfl | hc
      · omega
      · exact h c (List.mem_cons_of_mem _ hc)
    · rcases List.mem_cons.1 hc with rfl | hc
      · omega
      · exact nx_dig (fun c hc => h c (List.mem_cons_of_mem _ hc)) c hc
theorem nx_len : ∀ l : List Int, (nx l).length ≤ l.length + 1
  | [] => by simp [nx]
  | d :: r => by
    rw [nx]; split
    · simp
    · have := nx_len r; simp; omega
theorem nx_loop : ∀ (r : List Int) (i k : Nat), Dig r → r.length + 1 ≤ k → i + r.length ≤ 200000 → environref03_next.l0 k (List.replicate i 0 ++ r) i = some (List.replicate i 0 ++ nx r)
  | [], i, k, _, hk, hl => by
    obtain ⟨k, rfl⟩ : ∃ q, k = q + 1 := ⟨k - 1, by simp at hk; omega⟩
    simp only [environref03_next.l0]
    have e : (List.replicate i (0 : Int) ++ []).length = i := by simp
    rw [if_neg (by rw [e]; omega), if_pos (by rw [e]; simp at hl; omega), List.append_nil]; rfl
  | d :: r, i, k, hd, hk, hl => by
    obtain ⟨k, rfl⟩ : ∃ q, k = q + 1 := ⟨k - 1, by simp at hk; omega⟩
    simp only [environref03_next.l0]
    rw [List.length_cons] at hk hl
    have e : (List.replicate i (0 : Int) ++ d :: r).length = i + (r.length + 1) := by simp
    have hr : rd (List.replicate i (0 : Int) ++ d :: r) (i : Int) = d := by
      unfold rd; rw [Int.toNat_natCast]; simp [List.getD, List.getElem?_append_right]
    have hs : ∀ v : Int, (List.replicate i (0 : Int) ++ d :: r).set i v = List.replicate i 0 ++ v :: r := fun v => by
      rw [List.set_append_right _ _ (by rw [List.length_replicate]; exact Nat.le_refl _), List.length_replicate, Nat.sub_self, List.set_cons_zero]
    have hb := hd d (List.mem_cons_self ..)
    rw [if_pos (by rw [e]; omega), if_pos (by omega), hr, Int.toNat_natCast]
    by_cases h9 : d < 9
    · rw [if_pos h9, hs, t64 (by omega) (by omega), nx, if_pos h9]
    · rw [if_neg h9, hs, t64 (by omega) (by omega), nx, if_neg h9]
      have := nx_loop r (i + 1) k (fun c hc => hd c (List.mem_cons_of_mem _ hc)) (by omega) (by omega)
      rw [List.replicate_succ', List.append_assoc, List.append_assoc] at this
      exact this
theorem next_is {l : List Int} (hd : Dig l) (hl : l.length ≤ 100000) (k : Nat) (hk : l.length + 1 ≤ k) : environref03_next.f k l = some (nx l) := by
  unfold environref03_next.f
  simp only [Option.bind_some]
  rw [if_pos (by simp; omega)]
  exact nx_loop l 0 k hd hk (by omega)
def roundL (m k : Int) : List Int :=
  let n := lowD m.natAbs
  if 0 ≤ k then List.replicate k.toNat 0 ++ n
  else if (n.length : Int) < -k then []
  else if 5 ≤ rd n (-k - 1) then nx (n.drop (-k).toNat) else n.drop (-k).toNat
theorem roundL_dig (m k : Int) : Dig (roundL m k) := by
  have h := lowD_dig m.natAbs
  unfold roundL
  dsimp only
  have hdr : ∀ n, Dig ((lowD m.natAbs).drop n) := fun n d hd => h d (List.mem_of_mem_drop hd)
  split
  · intro d hd
    rcases List.mem_append.1 hd with hd | hd
    · rw [List.mem_replicate] at hd; omega
    · exact h d hd
  · split
    · intro d hd; cases hd
    · split
      · exact nx_dig (hdr _)
      · exact hdr _
theorem rounded_is {m e a : Int} (hm : I64t m) (h0 : -100000 ≤ e + a) (h1 : e + a ≤ 100000) (k : Nat) (hk : 100 ≤ k) : environref03_rounded.f k m e a = some (roundL m (e + a)) := by
  have hl := lowD_len (u := m.natAbs) (by unfold I64t at hm; omega)
  have hd := lowD_dig m.natAbs
  have hw : wrap64 (e + a) = e + a := t64 (by omega) (by omega)
  unfold environref03_rounded.f roundL
  rw [of_is hm k (by omega), hw]
  simp only [Option.bind_some]
  generalize e + a = q at *
  generalize lowD m.natAbs = n at *
  by_cases hq : 0 ≤ q
  · rw [if_pos (show q ≥ 0 from hq), if_pos hq, if_pos hq, if_pos (by omega), List.length_replicate, if_pos (by omega)]
  · have hn : wrap64 (-q) = -q := t64 (by omega) (by omega)
    rw [if_neg (show ¬ q ≥ 0 from hq), if_neg hq, hn]
    by_cases hlt : (n.length : Int) < -q
    · rw [if_pos (show -q > (n.length : Int) from hlt), if_pos hlt]
    · have hn1 : wrap64 (-q - 1) = -q - 1 := t64 (by omega) (by omega)
      rw [if_neg (show ¬ -q > (n.length : Int) from hlt), if_neg hlt, hn1, if_pos (by omega), if_pos (by omega), if_pos (by omega), if_pos (by omega)]
      by_cases h5 : 5 ≤ rd n (-q - 1)
      · rw [if_pos (show rd n (-q - 1) ≥ 5 from h5), if_pos h5, next_is (fun d hx => hd d (List.mem_of_mem_drop hx)) (by rw [List.length_drop]; omega) k (by rw [List.length_drop]; omega)]; rfl
      · rw [if_neg (show ¬ rd n (-q - 1) ≥ 5 from h5), if_neg h5]
def chD (d : Int) : UInt8 := UInt8.ofNat (48 + d.toNat)
theorem chD_nat {d : Int} (h : 0 ≤ d ∧ d ≤ 9) : (chD d).toNat = 48 + d.toNat := by
  unfold chD; rw [UInt8.toNat_ofNat', Nat.mod_eq_of_lt (by omega)]
theorem txt_map (l : List Int) : txtD l = l.reverse.map chD := rfl
theorem nx_more : ∀ {l : List Int}, Dig l → moreR (l.map chD) = (nx l).map chD
  | [], _ => rfl
  | d :: r, h => by
    have hd := h d (List.mem_cons_self ..)
    have hc := chD_nat hd
    rw [List.map_cons, moreR, nx]
    by_cases h9 : d < 9
    · rw [if_pos (by omega), if_pos h9, List.map_cons]
      congr 1
      apply UInt8.toNat_inj.1
      rw [UInt8.toNat_add, hc, chD_nat (by omega)]; simp; omega
    · rw [if_neg (by omega), if_neg h9, List.map_cons, nx_more (fun c hc => h c (List.mem_cons_of_mem _ hc))]; rfl
theorem more_txt {l : List Int} (h : Dig l) : moreS (txtD l) = txtD (nx l) := by
  unfold moreS
  rw [txt_map, ← List.map_reverse, List.reverse_reverse, nx_more h, txt_map, List.map_reverse]
theorem nx_zero : ∀ l : List Int, nx (l ++ [0]) = nx l ++ [0] ∨ nx (l ++ [0]) = nx l
  | [] => .inr rfl
  | d :: r => by
    rw [List.cons_append, nx, nx]
    by_cases h9 : d < 9
    · rw [if_pos h9, if_pos h9]; exact .inl rfl
    · rw [if_neg h9, if_neg h9]
      rcases nx_zero r with h | h
      · exact .inl (by rw [h]; rfl)
      · exact .inr (by rw [h])
def TopN (l : List Int) : Prop := ∀ d, l.getLast? = some d → d ≠ 0
theorem lowD_zero : lowD 0 = [] := rfl
theorem lowD_top (u : Nat) : TopN (lowD u) := by
  induction u using Nat.strongRecOn with
  | ind u ih =>
    by_cases h : u = 0
    · subst h; intro d hd; cases hd
    · rw [lowD_step h]
      intro d hd
      rw [List.getLast?_cons] at hd
      have hd := Option.some.inj hd
      have := ih (u / 10) (by omega)
      unfold TopN at this
      cases hg : (lowD (u / 10)).getLast? with
      | none =>
        rw [hg] at hd
        have h0 : lowD (u / 10) = [] := List.getLast?_eq_none_iff.1 hg
        have : u / 10 = 0 := by
          by_cases h1 : u / 10 = 0
          · exact h1
          · rw [lowD_step h1] at h0; cases h0
        simp at hd; omega
      | some v =>
        rw [hg] at hd
        have := this v hg
        simp at hd; omega
theorem top_drop {l : List Int} (h : TopN l) (p : Nat) : TopN (l.drop p) := by
  intro d hd
  rw [List.getLast?_drop] at hd
  split at hd
  · cases hd
  · exact h d hd
theorem nx_ne (l : List Int) : nx l ≠ [] := by cases l <;> rw [nx] <;> (try split) <;> simp
theorem top_nx : ∀ {l : List Int}, Dig l → TopN l → TopN (nx l)
  | [], _, _ => fun d hd => by rw [nx] at hd; simp at hd; omega
  | d :: r, hD, h => by
    have hd0 := hD d (List.mem_cons_self ..)
    have hr : TopN r := fun v hv => h v (by rw [List.getLast?_cons, hv]; rfl)
    rw [nx]
    split
    · intro v hv
      rw [List.getLast?_cons] at hv
      have hv := Option.some.inj hv
      cases hg : r.getLast? with
      | none => rw [hg] at hv; simp at hv; omega
      | some x => rw [hg] at hv; have := hr x hg; simp at hv; omega
    · intro v hv
      rw [List.getLast?_cons] at hv
      have hv := Option.some.inj hv
      have hi := top_nx (fun c hc => hD c (List.mem_cons_of_mem _ hc)) hr
      cases hg : (nx r).getLast? with
      | none => exact absurd (List.getLast?_eq_none_iff.1 hg) (nx_ne r)
      | some x => rw [hg] at hv; have := hi x hg; simp at hv; omega
theorem dw_txt {l : List Int} (hD : Dig l) (h : TopN l) : (txtD l).dropWhile (([48] : List UInt8).contains ·) = txtD l := by
  cases hl : txtD l with
  | nil => rfl
  | cons c r =>
    rw [List.dropWhile_cons, if_neg]
    intro hc
    have hc : c = 48 := by simpa using hc
    have hh : (txtD l).head? = some c := by rw [hl]; rfl
    rw [txt_map, List.head?_map, List.head?_reverse] at hh
    cases hg : l.getLast? with
    | none => rw [hg] at hh; cases hh
    | some d =>
      rw [hg] at hh
      have e : chD d = c := Option.some.inj hh
      have hd := h d hg
      have hr := hD d (List.mem_of_getLast? hg)
      have := chD_nat hr
      rw [e, hc] at this
      have h48 : ((48 : UInt8)).toNat = 48 := rfl
      omega
theorem dw_zero (l : List UInt8) : ((48 : UInt8) :: l).dropWhile (([48] : List UInt8).contains ·) = l.dropWhile (([48] : List UInt8).contains ·) := by
  rw [List.dropWhile_cons, if_pos (by decide)]
theorem txtD_app (l r : List Int) : txtD (l ++ r) = txtD r ++ txtD l := by unfold txtD; rw [List.reverse_append, List.map_append]
theorem scaled_round {m : Int} (hm : m ≠ 0) (k : Int) : scaledL m k = txtD (roundL m k) := by
  have hu : m.natAbs ≠ 0 := by omega
  have hD := lowD_dig m.natAbs
  have hT := lowD_top m.natAbs
  have e := txt_low hu
  unfold scaledL roundL
  dsimp only
  rw [← e]
  generalize lowD m.natAbs = n at *
  by_cases h0 : 0 ≤ k
  · rw [if_pos h0, if_pos h0]
    have ez : List.replicate k.toNat (48 : UInt8) = txtD (List.replicate k.toNat 0) := by
      rw [txt_map, List.reverse_replicate, List.map_replicate]; rfl
    rw [ez, ← txtD_app]
    refine dw_txt ?_ ?_
    · intro d hd
      rcases List.mem_append.1 hd with hd | hd
      · rw [List.mem_replicate] at hd; omega
      · exact hD d hd
    · intro d hd
      rw [List.getLast?_append] at hd
      cases hg : n.getLast? with
      | none =>
        have hn : n = [] := List.getLast?_eq_none_iff.1 hg
        have hx := dd_ne m.natAbs
        rw [← e, hn] at hx; exact absurd rfl hx
      | some v => rw [hg] at hd; have := hT v hg; simp at hd; omega
  · rw [if_neg h0, if_neg h0, txtD_len]
    by_cases hl : (n.length : Int) < -k
    · rw [if_pos hl, if_pos hl]; rfl
    · rw [if_neg hl, if_neg hl]
      obtain ⟨p, hp⟩ : ∃ p : Nat, (-k).toNat = p := ⟨_, rfl⟩
      rw [hp]
      have hp1 : 1 ≤ p ∧ p ≤ n.length := by omega
      have htk : (txtD n).take (n.length - p) = txtD (n.drop p) := by
        rw [txt_map, txt_map, ← List.map_take, List.take_reverse]
        congr 3; omega
      have hdp : ((txtD n).drop (n.length - p)).headD 0 = chD (rd n (-k - 1)) := by
        rw [txt_map, ← List.map_drop, List.drop_reverse]
        have e2 : n.length - (n.length - p) = p := by omega
        rw [e2]
        have e3 : (-k - 1).toNat = p - 1 := by omega
        unfold rd
        rw [e3, List.headD_eq_head?_getD, List.head?_map, List.head?_reverse, List.getLast?_take, if_neg (by omega)]
        simp [List.getD, List.getElem?_eq_getElem (show p - 1 < n.length by omega)]
      have hrb : 0 ≤ rd n (-k - 1) ∧ rd n (-k - 1) ≤ 9 := by
        have e3 : (-k - 1).toNat = p - 1 := by omega
        unfold rd
        rw [e3]
        have : n.getD (p - 1) 0 = n[p - 1] := by simp [List.getD, List.getElem?_eq_getElem (show p - 1 < n.length by omega)]
        rw [this]; exact hD _ (List.getElem_mem ..)
      rw [hdp, chD_nat hrb, htk]
      have hDd : Dig (n.drop p) := fun d hd => hD d (List.mem_of_mem_drop hd)
      by_cases h5 : 5 ≤ rd n (-k - 1)
      · rw [if_pos (by omega), if_pos h5]
        have ec : (48 : UInt8) :: txtD (n.drop p) = txtD (n.drop p ++ [0]) := by rw [txtD_app]; rfl
        have hDz : Dig (n.drop p ++ [0]) := fun d hd => by
          rcases List.mem_append.1 hd with hd | hd
          · exact hDd d hd
          · rw [List.mem_singleton] at hd; omega
        rw [ec, more_txt hDz]
        have hx := dw_txt (nx_dig hDd) (top_nx hDd (top_drop hT p))
        rcases nx_zero (n.drop p) with h | h
        · rw [h, txtD_app, show txtD [0] = [48] from rfl, List.singleton_append, dw_zero, hx]
        · rw [h, hx]
      · rw [if_neg (by omega), if_neg h5]
        exact dw_txt hDd (top_drop hT p)
theorem scaledL_zero (k : Int) : scaledL 0 k = [] := by
  have h48 : ∀ n : Nat, (List.replicate n (48 : UInt8)).dropWhile (([48] : List UInt8).contains ·) = [] := by
    intro n
    induction n with
    | zero => rfl
    | succ n ih => rw [List.replicate_succ, dw_zero]; exact ih
  have hd : Lib.decDigits (0 : Int).natAbs = [48] := by rw [show (0 : Int).natAbs = 0 from rfl, Lib.decDigits]; rfl
  unfold scaledL
  dsimp only
  rw [hd]
  by_cases h0 : 0 ≤ k
  · rw [if_pos h0]; exact h48 (k.toNat + 1)
  · rw [if_neg h0]
    by_cases h1 : (([48] : List UInt8).length : Int) < -k
    · rw [if_pos h1]
    · rw [if_neg h1]
      have : (-k).toNat = 1 := by simp at h1; omega
      rw [this]; rfl
theorem roundL_len (m k : Int) (hm : I64t m) : (roundL m k).length ≤ k.toNat + 20 := by
  have hl := lowD_len (u := m.natAbs) (by unfold I64t at hm; omega)
  unfold roundL
  dsimp only
  split
  · rw [List.length_append, List.length_replicate]; omega
  · split
    · simp
    · split
      · have := nx_len ((lowD m.natAbs).drop (-k).toNat); rw [List.length_drop] at this; omega
      · rw [List.length_drop]; omega
theorem pad48 (a : Nat) : padL [48] a = padL [] a := by
  unfold padL
  rw [if_pos (show ([] : List UInt8).length ≤ a by simp), List.append_nil]
  by_cases h : ([48] : List UInt8).length ≤ a
  · rw [if_pos h]
    have : a + 1 - ([] : List UInt8).length = (a + 1 - ([48] : List UInt8).length) + 1 := by simp at h ⊢ <;> omega
    rw [this, List.replicate_succ']
  · rw [if_neg h]
    have : a = 0 := by simp at h; omega
    subst this; rfl
theorem decL_pad {m : Int} (k : Int) (a : Nat) (hm : m ≠ 0) : padL (decL (roundL m k)) a = padL (scaledL m k) a := by
  rw [scaled_round hm]
  unfold decL
  split
  · rename_i h; rw [h, pad48]; rfl
  · rfl
theorem point_j0 {x : List UInt8} {a : Nat} (hx : x.length ≤ 100000) (ha : a ≤ 1000) (k : Nat) (hk : 1100 ≤ k) : environref03_point.j0 k a (B x) = some (B (pointL (padL x a) a)) := by
  obtain ⟨k, rfl⟩ : ∃ q, k = q + 1 := ⟨k - 1, by omega⟩
  have hL := padL_len x a
  have hpe := point_end (T := padL x a) (a := a) hL.1 (by omega)
  simp only [environref03_point.j0]
  unfold padL at hpe ⊢
  by_cases h : x.length ≤ a
  · rw [if_pos h] at hpe ⊢
    have hB : (B x).size = x.length := B_size x
    rw [if_pos (by rw [hB]; omega), hB, t64 (n := (a : Int) + 1) (by omega) (by omega), t64 (by omega) (by omega), rrep_is (by omega) (by omega) k (by omega)]
    simp only [Option.bind_some]
    have hn : ((a : Int) + 1 - (x.length : Int)).toNat = a + 1 - x.length := by omega
    have e := strs_rep (a + 1 - x.length) 48 (by decide)
    rw [hn, show (48 : Int) = ((48 : Nat) : Int) from rfl, e, show UInt8.ofNat 48 = 48 from rfl, B_app, B_size, List.length_replicate, if_pos (by omega)]
    exact hpe
  · rw [if_neg h] at hpe ⊢
    rw [if_neg (by rw [B_size]; omega)]
    exact hpe
theorem point_is {m e : Int} {a : Nat} (hm : I64t m) (h0 : -1000 ≤ e + a) (h1 : e + a ≤ 1000) (ha : a ≤ 1000) (k : Nat) (hk : 2000 ≤ k) :
    environref03_point.f k m e a = some (B (pointL (padL (scaledL m (e + a)) a) a)) := by
  have hl := roundL_len m (e + a) hm
  unfold environref03_point.f
  rw [rounded_is hm (by omega) (by omega) k (by omega)]
  simp only [Option.bind_some]
  rw [dec_is (roundL_dig m (e + a)) (by omega) k (by omega)]
  simp only [Option.bind_some]
  by_cases hz : m = 0
  · rw [if_pos hz]
    subst hz
    rw [show (⟨#[48]⟩ : ByteArray) = B [48] from rfl, point_j0 (by simp) ha k (by omega), pad48, scaledL_zero]
  · have hdl : (decL (roundL m (e + a))).length ≤ 100000 := by
      unfold decL; split
      · simp
      · rw [txtD_len]; omega
    rw [if_neg hz, point_j0 hdl ha k (by omega), decL_pad _ _ hz]
def fixL (w : Int) (sg : List UInt8) (m e : Int) : Nat → List UInt8
  | 0 => List.replicate w.natAbs 42
  | n + 1 =>
    let p := pointL (padL (scaledL m (e + n)) n) n
    let q := if w ≠ 0 ∧ (sg ++ p).length = w.natAbs + 1 ∧ ([48, 46] : List UInt8).isPrefixOf p = true then p.drop 1 else p
    if w = 0 ∨ (sg ++ q).length ≤ w.natAbs then fillL w (sg ++ q) else fixL w sg m e n
theorem pref2 {p : List UInt8} (h : 2 ≤ p.length) : ([48, 46] : List UInt8).isPrefixOf p = (decide (bt (B p) 0 = 48) && decide (bt (B p) 1 = 46)) := by
  match p, h with
  | c :: d :: r, _ =>
    have h0 : bt (B (c :: d :: r)) 0 = (c.toNat : Int) := B_bt rfl
    have h1 : bt (B (c :: d :: r)) 1 = (d.toNat : Int) := by
      have := bt_at (B (c :: d :: r)) 1 (by rw [B_size]; simp)
      rw [← this]; rfl
    rw [h0, h1]
    have hx : ∀ (x y : UInt8), (x == y) = decide ((y.toNat : Int) = (x.toNat : Int)) := fun x y => by
      by_cases hxy : x = y
      · subst hxy; simp
      · rw [decide_eq_false (fun e => hxy (UInt8.toNat_inj.1 (by omega)))]; simpa using hxy
    simp only [List.isPrefixOf, Bool.and_true]
    rw [hx 48 c, hx 46 d]; rfl
theorem pfix_loop {w m e : Int} (h0 : -1000 ≤ w) (h1 : w ≤ 1000) (hm : I64t m) (he0 : -400 ≤ e) (he1 : e ≤ 418) {sg : List UInt8} (hsl : sg.length ≤ 1) :
    ∀ (n k : Nat), n ≤ 501 → 2 * n + 1 ≤ k → (w ≠ 0 ∨ n ≠ 0) → texts_Fixed.l0 k w ((n : Int) - 1) (B sg) m e = some (B (fixL w sg m e n)) := by
  intro n
  induction n with
  | zero =>
    intro k _ hk hw
    obtain ⟨k, rfl⟩ : ∃ j, k = j + 1 := ⟨k - 1, by omega⟩
    have hw : w ≠ 0 := by exact hw.elim id (fun h => absurd rfl h)
    simp only [texts_Fixed.l0]
    rw [if_neg (by omega), stars_is h0 h1, show max w.natAbs 1 = w.natAbs by omega]; rfl
  | succ n ih =>
    intro k hn hk _
    obtain ⟨k, rfl⟩ : ∃ j, k = j + 1 + 1 := ⟨k - 2, by omega⟩
    have han : ((n + 1 : Nat) : Int) - 1 = (n : Int) := by omega
    have hS := scaledL_len hm (k := e + n) (by omega)
    have hp := pointed_is (m := m) (e := e) (a := n) hm (by omega) (by omega) (by omega)
    rw [han, fixL]
    generalize scaledL m (e + n) = S at *
    have hTl := padL_len S n
    generalize padL S n = T at *
    have hl := pointL_len hTl.1
    generalize pointL T n = p at *
    have hpl : 1 ≤ p.length ∧ p.length ≤ 200000 := by rw [hl]; split <;> omega
    have hwn : wrap64 ((n : Int) - 1) = (n : Int) - 1 := t64 (by omega) (by omega)
    have fin : ∀ q : List UInt8, q.length ≤ 200000 → ((texts_filled.f (B (sg ++ q)) w).bind fun bt164 => (if bt164.2 = true then (some bt164.1) else (texts_Fixed.l0 k w (wrap64 ((n : Int) - 1)) (B sg) m e))) = some (B (if w = 0 ∨ (sg ++ q).length ≤ w.natAbs then fillL w (sg ++ q) else fixL w sg m e n)) := by
      intro q hq
      rw [filled_ex h0 h1 (by rw [List.length_append]; omega)]
      by_cases hf : w = 0 ∨ (sg ++ q).length ≤ w.natAbs
      · rw [if_pos hf, if_pos hf]; simp
      · rw [if_neg hf, if_neg hf]
        simp only [Option.bind_some]
        rw [if_neg (by simp), hwn]
        exact ih k (by omega) (by omega) (.inl (fun h => hf (.inl h)))
    have hx : (B p).extract 1 p.length = B (p.drop 1) := by
      rw [B_extract, List.take_of_length_le (by rw [List.length_drop]; exact Nat.le_refl _)]
    have J : ∀ (b : Bool) (q : List UInt8), q = (if b = true then p.drop 1 else p) → texts_Fixed.j2 (k + 1) w n (B sg) (B p) b m e = some (B (if w = 0 ∨ (sg ++ q).length ≤ w.natAbs then fillL w (sg ++ q) else fixL w sg m e n)) := by
      intro b q hq
      simp only [texts_Fixed.j2]
      cases b with
      | true =>
        obtain rfl : q = p.drop 1 := hq
        rw [if_pos rfl, B_size, if_pos (by omega), hx, B_size, B_size, List.length_drop, if_pos (by omega), B_app]
        exact fin (p.drop 1) (by rw [List.length_drop]; omega)
      | false =>
        obtain rfl : q = p := hq
        rw [if_neg (by simp), B_size, B_size, if_pos (by omega), B_app]
        exact fin q hpl.2
    simp only [texts_Fixed.l0]
    rw [if_pos (by omega), hp]
    simp only [Option.bind_some]
    by_cases hw : w = 0
    · have hn0 : ¬ (w ≠ 0 ∧ (sg ++ p).length = w.natAbs + 1 ∧ ([48, 46] : List UInt8).isPrefixOf p = true) := fun h => h.1 hw
      rw [if_pos hw]; exact J false _ (if_neg hn0)
    · have hm1 : wrap64 ((mx w (wrap64 (-w))) + 1) = (w.natAbs : Int) + 1 := by
        rw [t64 (n := -w) (by omega) (by omega)]
        have : mx w (-w) = (w.natAbs : Int) := by unfold mx; split <;> omega
        rw [this, t64 (by omega) (by omega)]
      rw [if_neg hw, B_size, B_size, if_pos (by omega), B_app, B_size, hm1]
      by_cases hs : (sg ++ p).length = w.natAbs + 1
      · rw [if_pos (by omega)]
        unfold strings_HasPrefix.f
        simp only [Option.bind_some]
        have hpre : Lib.hasPrefix (B p).data.toList (⟨#[48, 46]⟩ : ByteArray).data.toList = ([48, 46] : List UInt8).isPrefixOf p := rfl
        rw [hpre]
        refine J _ _ ?_
        by_cases hb : ([48, 46] : List UInt8).isPrefixOf p = true
        · rw [if_pos hb, if_pos ⟨hw, hs, hb⟩]
        · rw [if_neg hb, if_neg (fun h => hb h.2.2)]
      · rw [if_neg (by omega)]; exact J false _ (if_neg (fun h => hs h.2.1))
theorem rfix_j3 {w m e : Int} (h0 : -1000 ≤ w) (h1 : w ≤ 1000) {n k : Nat} {q R : List UInt8} (hn : n ≤ 501) (hk : 1002 ≤ k) (hq : q.length ≤ 1000000)
    (hR : environref03_Fixed.l0 k w ((n : Int) - 1) m e = some (B R)) :
    environref03_Fixed.j3 (k + 1) w n (B q) m e = some (B (if w = 0 ∨ q.length ≤ w.natAbs then fillL w q else R)) := by
  have hwn : wrap64 ((n : Int) - 1) = (n : Int) - 1 := t64 (by omega) (by omega)
  simp only [environref03_Fixed.j3]
  rw [rfill_is h0 h1 hq k hk, rsize_is h0 h1]
  simp only [Option.bind_some]
  by_cases hw : w = 0
  · rw [if_pos hw, if_pos (.inl hw)]
  · rw [if_neg hw, B_size]
    by_cases hf : q.length ≤ w.natAbs
    · rw [if_pos (Int.ofNat_le.2 hf), if_pos (.inr hf)]
    · rw [if_neg (fun h => hf (Int.ofNat_le.1 h)), if_neg (fun h => h.elim hw hf), hwn, hR]
theorem rfix_j2 {w m e : Int} (h0 : -1000 ≤ w) (h1 : w ≤ 1000) {n k : Nat} {p R : List UInt8} (hn : n ≤ 501) (hk : 1002 ≤ k) (hp : p.length ≤ 200000) (hp1 : 1 ≤ p.length) {sg : List UInt8} (hsl : sg.length ≤ 1)
    (hsg : texts_sign.f (decide (m < 0)) w = some (B sg)) (hR : environref03_Fixed.l0 k w ((n : Int) - 1) m e = some (B R)) (b : Bool) {q : List UInt8} (hq : (if b = true then p.drop 1 else p) = q) :
    environref03_Fixed.j2 (k + 1 + 1) w n (B p) (B (sg ++ p)) b m e = some (B (if w = 0 ∨ (sg ++ q).length ≤ w.natAbs then fillL w (sg ++ q) else R)) := by
  have hx : (B p).extract 1 p.length = B (p.drop 1) := by
    rw [B_extract, List.take_of_length_le (by rw [List.length_drop]; exact Nat.le_refl _)]
  simp only [environref03_Fixed.j2]
  cases b with
  | true =>
    rw [if_pos rfl] at hq; subst hq
    rw [if_pos rfl, rsign_is, hsg]
    simp only [Option.bind_some]
    rw [B_size, if_pos (by omega), hx, B_size, B_size, if_pos (by rw [List.length_drop]; omega), B_app]
    exact rfix_j3 h0 h1 hn hk (by rw [List.length_append, List.length_drop]; omega) hR
  | false =>
    rw [if_neg (by simp)] at hq; subst hq
    rw [if_neg (by simp)]
    exact rfix_j3 h0 h1 hn hk (by rw [List.length_append]; omega) hR
theorem pref_zero {T : List UInt8} (hTd : Digs T) : ([48, 46] : List UInt8).isPrefixOf (pointL T 0) = false := by
  have : pointL T 0 = T := rfl
  rw [this]
  match T, hTd with
  | [], _ => rfl
  | [_], _ => simp [List.isPrefixOf]
  | a :: b :: r, hd =>
    have hb := hd b (by simp)
    have : ((46 : UInt8) == b) = false := by
      rw [beq_eq_false_iff_ne]; rintro rfl; exact absurd hb.1 (by decide)
    simp only [List.isPrefixOf, this, Bool.false_and, Bool.and_false]
def cutL (w : Int) (sg p : List UInt8) : List UInt8 := if w ≠ 0 ∧ (sg ++ p).length = w.natAbs + 1 ∧ ([48, 46] : List UInt8).isPrefixOf p = true then p.drop 1 else p
theorem fixL_succ (w : Int) (sg : List UInt8) (m e : Int) (n : Nat) : fixL w sg m e (n + 1) = (if w = 0 ∨ (sg ++ cutL w sg (pointL (padL (scaledL m (e + n)) n) n)).length ≤ w.natAbs then fillL w (sg ++ cutL w sg (pointL (padL (scaledL m (e + n)) n) n)) else fixL w sg m e n) := rfl
theorem rfix_l0 {w m e : Int} (h0 : -1000 ≤ w) (h1 : w ≤ 1000) {n k : Nat} {p R : List UInt8} (hn : n ≤ 501) (hk : 1002 ≤ k) (hpl : p.length ≤ 200000) (hp1 : 1 ≤ p.length) (hp2 : n ≠ 0 → 2 ≤ p.length) (hz : n = 0 → ([48, 46] : List UInt8).isPrefixOf p = false)
    {sg : List UInt8} (hsl : sg.length ≤ 1) (hsg : texts_sign.f (decide (m < 0)) w = some (B sg)) (hp : environref03_point.f (k + 1 + 1) m e n = some (B p))
    (hR : environref03_Fixed.l0 k w ((n : Int) - 1) m e = some (B R)) :
    environref03_Fixed.l0 (k + 1 + 1 + 1) w n m e = some (B (if w = 0 ∨ (sg ++ cutL w sg p).length ≤ w.natAbs then fillL w (sg ++ cutL w sg p) else R)) := by
  have J := fun (b : Bool) (q : List UInt8) (hq : (if b = true then p.drop 1 else p) = q) => rfix_j2 h0 h1 hn hk hpl hp1 hsl hsg hR b hq
  generalize hq : cutL w sg p = q
  unfold cutL at hq
  simp only [environref03_Fixed.l0]
  rw [if_pos (by omega), hp, rsign_is, hsg]
  simp only [Option.bind_some]
  rw [B_size, B_size, if_pos (by omega), B_app]
  have no : ¬ (w ≠ 0 ∧ (sg ++ p).length = w.natAbs + 1 ∧ ([48, 46] : List UInt8).isPrefixOf p = true) → p = q := fun h => by rw [if_neg h] at hq; exact hq
  by_cases hw : w = 0
  · rw [if_pos hw]; exact J false q (no (fun h => h.1 hw))
  · have hm1 : wrap64 ((w.natAbs : Int) + 1) = (w.natAbs : Int) + 1 := t64 (by omega) (by omega)
    rw [if_neg hw, rsize_is h0 h1, Option.bind_some, B_size, hm1]
    by_cases hs : (sg ++ p).length = w.natAbs + 1
    · rw [if_pos (by omega)]
      by_cases hn0 : n = 0
      · have hz := hz hn0
        rw [if_neg (by omega)]; exact J false q (no (fun h => by rw [hz] at h; exact absurd h.2.2 (by simp)))
      · have h2 := hp2 hn0
        have hpr := pref2 h2
        rw [if_pos (by omega), if_pos (by omega)]
        by_cases hc : bt (B p) 0 = 48
        · rw [if_pos hc, if_pos (by omega)]
          have hb : (bt (B p) 1 == 46) = ([48, 46] : List UInt8).isPrefixOf p := by
            rw [hpr, decide_eq_true hc, Bool.true_and]; rfl
          rw [hb]
          refine J _ q ?_
          rw [← hq]
          by_cases hy : ([48, 46] : List UInt8).isPrefixOf p = true
          · rw [if_pos hy, if_pos ⟨hw, hs, hy⟩]
          · rw [if_neg hy, if_neg (fun h => hy h.2.2)]
        · rw [if_neg hc]; exact J false q (no (fun h => by rw [hpr, decide_eq_false hc] at h; exact absurd h.2.2 (by simp)))
    · rw [if_neg (by omega)]; exact J false q (no (fun h => hs h.2.1))
theorem rfix_end {w m e : Int} (h0 : -1000 ≤ w) (h1 : w ≤ 1000) {k : Nat} (hk : 1002 ≤ k) : environref03_Fixed.l0 (k + 1) w (-1) m e = some (B (List.replicate w.natAbs 42)) := by
  simp only [environref03_Fixed.l0]
  rw [if_neg (by omega), rsize_is h0 h1]
  simp only [Option.bind_some]
  rw [rrep_is (by omega) (by omega) k (by omega)]
  have e := strs_rep w.natAbs 42 (by decide)
  simp only [Option.bind_some]
  rw [Int.toNat_natCast]; exact congrArg some e
theorem rfix_loop {w m e : Int} (h0 : -1000 ≤ w) (h1 : w ≤ 1000) (hm : I64t m) (he0 : -400 ≤ e) (he1 : e ≤ 418) :
    ∀ (n k : Nat), n ≤ 501 → 3 * n + 3000 ≤ k → environref03_Fixed.l0 k w ((n : Int) - 1) m e = some (B (fixL w (sgL (decide (m < 0)) w) m e n)) := by
  have hsl := sgL_len (decide (m < 0)) w
  have hsg := sign_ex (decide (m < 0)) w
  generalize sgL (decide (m < 0)) w = sg at *
  intro n
  induction n with
  | zero =>
    intro k _ hk
    obtain ⟨k, rfl⟩ : ∃ j, k = j + 1 := ⟨k - 1, by omega⟩
    exact rfix_end h0 h1 (by omega)
  | succ n ih =>
    intro k hn hk
    obtain ⟨k, rfl⟩ : ∃ j, k = j + 1 + 1 + 1 := ⟨k - 3, by omega⟩
    have han : ((n + 1 : Nat) : Int) - 1 = (n : Int) := by omega
    have hS := scaledL_len hm (k := e + n) (by omega)
    have hSd := scaledL_digs m (e + n)
    have hp := point_is (m := m) (e := e) (a := n) hm (by omega) (by omega) (by omega) (k + 1 + 1) (by omega)
    have hR := ih k (by omega) (by omega)
    rw [han, fixL_succ]
    generalize fixL w sg m e n = R at *
    generalize scaledL m (e + n) = S at *
    have hTl := padL_len S n
    have hTd := padL_digs hSd n
    generalize padL S n = T at *
    have hl := pointL_len hTl.1
    have hz : n = 0 → ([48, 46] : List UInt8).isPrefixOf (pointL T n) = false := by rintro rfl; exact pref_zero hTd
    generalize pointL T n = p at *
    have hpl : p.length ≤ 200000 ∧ 1 ≤ p.length ∧ (n ≠ 0 → 2 ≤ p.length) := by rw [hl]; split <;> omega
    exact rfix_l0 h0 h1 (by omega) (by omega) hpl.1 hpl.2.1 hpl.2.2 hz hsl hsg hp hR
def okP (p : Nat) (m e : Int) : Bool := if m = 0 then decide (e = 0) else decide (m.natAbs % 10 ≠ 0 ∧ dg m.natAbs ≤ p ∧ -400 ≤ e ∧ e + dg m.natAbs ≤ p + 400)
theorem okP_more {p q : Nat} (h : p ≤ q) {m e : Int} (ho : okP p m e = true) : okP q m e = true := by
  unfold okP at ho ⊢
  split at ho
  · rename_i h0; rw [if_pos h0]; exact ho
  · rename_i h0
    rw [if_neg h0]
    have := of_decide_eq_true ho
    exact decide_eq_true ⟨this.1, by omega, by omega, by omega⟩
theorem okP_bd {p : Nat} (hp : p ≤ 18) {m e : Int} (h : okP p m e = true) : -400 ≤ e ∧ e ≤ 418 := by
  unfold okP at h
  split at h
  · have := of_decide_eq_true h; omega
  · have := of_decide_eq_true h; omega
theorem dg_low (u : Nat) : dg u = (lowD u).length := by
  induction u using Nat.strongRecOn with
  | ind u ih =>
    by_cases h : u = 0
    · subst h; rw [lowD_zero]; exact dg_zero
    · rw [lowD_step h, dg_pos h, List.length_cons, ih (u / 10) (by omega)]
theorem tmod_ten (m : Int) : (Int.tmod m 10 = 0) ↔ m.natAbs % 10 = 0 := by
  have h : (Int.tmod m 10).natAbs = m.natAbs % 10 := Int.natAbs_tmod m 10
  omega
theorem pdig_is {m : Int} (h : I64t m) : reals_wide_digits.f (hiw m.natAbs) (low m.natAbs) = some ((dg m.natAbs : Nat) : Int) := by
  unfold reals_wide_digits.f
  have hn : m.natAbs < 340282366920938463463374607431768211456 := by unfold I64t at h; omega
  rw [if_pos (hl_u hn), wv_hl]
theorem pv_j0 (k : Nat) (h l p e : Int) (d : Nat) (m : Int) (hm : reals_magnitude.f m = some (h, l)) (hd : reals_wide_digits.f h l = some (d : Int)) : reals_Valid.j0 (k + 1) p false m e = some (decide ((wrap64 (d + (mx (wrap64 (e - 400)) 0))) ≤ p)) := by
  simp only [reals_Valid.j0]; rw [if_neg (by simp), hm]; simp only [Option.bind_some]; rw [hd]; simp only [Option.bind_some]
theorem pv_end {p d : Nat} {e m : Int} (hp : p ≤ 18) (hd : d ≤ 19) (h1 : ¬ m.natAbs % 10 = 0) (h2 : ¬ e < -400) (h3 : ¬ e > 400 + p) :
    decide ((wrap64 ((d : Int) + (mx (wrap64 (e - 400)) 0))) ≤ (p : Int)) = decide (m.natAbs % 10 ≠ 0 ∧ d ≤ p ∧ -400 ≤ e ∧ e + d ≤ p + 400) := by
  rw [t64 (n := e - 400) (by omega) (by omega), t64 (by unfold mx; split <;> omega) (by unfold mx; split <;> omega), decide_eq_decide]
  unfold mx; constructor
  · intro h; split at h <;> exact ⟨h1, by omega, by omega, by omega⟩
  · rintro ⟨a, b, c, d⟩; split <;> omega
theorem pv_is {s m e : Int} {p : Nat} (hd : reals_Digits.f s = some ((p : Int), 0)) (hp : p ≤ 18) (hm : I64t m) (k : Nat) : reals_Valid.f (k + 1) s m e = some (okP p m e) := by
  unfold reals_Valid.f okP
  rw [hd]
  simp only [Option.bind_some]
  rw [if_pos trivial]
  by_cases hz : m = 0
  · rw [if_pos hz, if_pos hz]; rfl
  · rw [if_neg hz, if_neg hz]
    have bad : reals_Valid.j0 (k + 1) p true m e = some false := by
      simp only [reals_Valid.j0]; rw [if_pos trivial]
    have hlow := lowD_len (u := m.natAbs) (by unfold I64t at hm; omega)
    rw [← dg_low] at hlow
    by_cases h1 : m.natAbs % 10 = 0
    · rw [if_pos ((tmod_ten m).2 h1), bad, decide_eq_false (fun h => h.1 h1)]
    · rw [if_neg (fun h => h1 ((tmod_ten m).1 h))]
      by_cases h2 : e < -400
      · rw [if_pos h2, bad, decide_eq_false (fun h => by have := h.2.2.1; omega)]
      · rw [if_neg h2, t64 (by omega) (by omega)]
        by_cases h3 : e > 400 + (p : Int)
        · rw [decide_eq_true h3, bad, decide_eq_false (fun h => by have := h.2.2.2; omega)]
        · rw [decide_eq_false h3, pv_j0 k _ _ p e _ m (mag_is hm) (pdig_is hm), pv_end hp hlow h1 h2 h3]
theorem pvalid_all {m e : Int} (hm : I64t m) (k : Nat) : texts_valid.f (k + 1) m e = some (okP 18 m e) := by
  unfold texts_valid.f
  rw [pv_is (s := 1) (p := 18) rfl (by decide) hm k, pv_is (s := 0) (p := 15) rfl (by decide) hm k, pv_is (s := -1) (p := 7) rfl (by decide) hm k]
  simp only [Option.bind_some]
  by_cases h1 : okP 18 m e = true
  · rw [if_pos h1, h1]
  · rw [if_neg h1, if_neg (fun h => h1 (okP_more (by decide) h))]
    have h3 : okP 7 m e ≠ true := fun h => h1 (okP_more (by decide) h)
    rw [Bool.eq_false_iff.2 h1, Bool.eq_false_iff.2 h3]
theorem rval_is {m e : Int} (hm : I64t m) (k : Nat) (hk : 21 ≤ k) : environref02_Valid.f k 1 m e = some (okP 18 m e) := by
  have hd : environref02_Digits.f 1 = some (18, 0) := rfl
  unfold environref02_Valid.f okP
  rw [hd]
  simp only [Option.bind_some]
  rw [if_pos trivial]
  by_cases hz : m = 0
  · rw [if_pos hz, if_pos hz]; rfl
  · have hu : m.natAbs ≠ 0 := by omega
    have hlow := lowD_len (u := m.natAbs) (by unfold I64t at hm; omega)
    have hst := lowD_step hu
    rw [if_neg hz, if_neg hz, of_is hm k hk, dg_low]
    simp only [Option.bind_some]
    have hr : rd (lowD m.natAbs) 0 = ((m.natAbs % 10 : Nat) : Int) := by rw [hst]; rfl
    have hl : 1 ≤ (lowD m.natAbs).length := by rw [hst]; simp
    rw [hr]
    generalize (lowD m.natAbs).length = d at *
    have e1 : wrap64 ((wrap64 (18 + 400)) - (d : Int)) = 418 - d := by rw [t64 (n := 18 + 400) (by omega) (by omega), t64 (by omega) (by omega)]; omega
    rw [if_pos (by omega), e1]
    by_cases h1 : m.natAbs % 10 = 0
    · rw [if_pos (by omega), decide_eq_false (fun h => h.1 h1)]
    · rw [if_neg (by omega)]
      by_cases h2 : d ≤ 18
      · rw [if_pos (by omega)]
        by_cases h3 : e ≥ -400
        · rw [if_pos h3]; congr 1; rw [decide_eq_decide]
          exact ⟨fun h => ⟨h1, h2, h3, by omega⟩, fun h => by have := h.2.2.2; omega⟩
        · rw [if_neg h3, decide_eq_false (fun h => h3 h.2.2.1)]
      · rw [if_neg (by omega), decide_eq_false (fun h => h2 h.2.1)]
def fixedL (m e w a : Int) : List UInt8 := if (-1000 ≤ w ∧ w ≤ 1000) ∧ 0 ≤ a ∧ a ≤ 500 ∧ okP 18 m e = true then fixL w (sgL (decide (m < 0)) w) m e (a.toNat + 1) else [42]
theorem pfixed_is {m e w a : Int} (k : Nat) (hk : 1100 ≤ k) (hm : I64t m) : texts_Fixed.f k m e w a = some (B (fixedL m e w a)) := by
  obtain ⟨k, rfl⟩ : ∃ j, k = j + 1 := ⟨k - 1, by omega⟩
  have bad : ¬ ((-1000 ≤ w ∧ w ≤ 1000) ∧ 0 ≤ a ∧ a ≤ 500 ∧ okP 18 m e = true) → texts_Fixed.j0 (k + 1) w a true m e = some (B (fixedL m e w a)) := by
    intro h
    unfold fixedL
    rw [if_neg h]
    simp only [texts_Fixed.j0]
    rw [if_pos trivial, stars_is (by decide) (by decide)]; rfl
  unfold texts_Fixed.f
  by_cases h1 : a < 0
  · rw [if_pos h1]; exact bad (fun h => by omega)
  · rw [if_neg h1]
    by_cases h2 : a > 500
    · rw [if_pos h2]; exact bad (fun h => by omega)
    · rw [if_neg h2]
      by_cases hw : -1000 ≤ w ∧ w ≤ 1000
      · rw [wide_no hw.1 hw.2]
        simp only [Option.bind_some]
        rw [if_neg (by simp), pvalid_all hm k]
        simp only [Option.bind_some]
        by_cases hb : okP 18 m e = true
        · have hbd := okP_bd (by decide) hb
          have hs := sign_ex (decide (m < 0)) w
          have hsl := sgL_len (decide (m < 0)) w
          rw [hb]
          simp only [texts_Fixed.j0]
          rw [if_neg (by simp), hs]
          simp only [Option.bind_some]
          have := pfix_loop hw.1 hw.2 hm hbd.1 hbd.2 hsl (a.toNat + 1) k (by omega) (by omega) (.inr (by omega))
          rw [show ((a.toNat + 1 : Nat) : Int) - 1 = a by omega] at this
          rw [this]
          unfold fixedL
          rw [if_pos ⟨hw, by omega, by omega, hb⟩]
        · rw [Bool.eq_false_iff.2 hb]; exact bad (fun h => hb h.2.2.2)
      · rw [wide_yes hw]
        simp only [Option.bind_some]
        rw [if_pos trivial]; exact bad (fun h => hw h.1)
theorem rfixed_is {m e w a : Int} (k : Nat) (hk : 6000 ≤ k) (hm : I64t m) : environref03_Fixed.f k m e w a = some (B (fixedL m e w a)) := by
  obtain ⟨k, rfl⟩ : ∃ j, k = j + 1 := ⟨k - 1, by omega⟩
  have bad : ¬ ((-1000 ≤ w ∧ w ≤ 1000) ∧ 0 ≤ a ∧ a ≤ 500 ∧ okP 18 m e = true) → environref03_Fixed.j0 (k + 1) w a true m e = some (B (fixedL m e w a)) := by
    intro h
    unfold fixedL
    rw [if_neg h]
    simp only [environref03_Fixed.j0]
    rw [if_pos trivial]; rfl
  unfold environref03_Fixed.f
  by_cases hw : -1000 ≤ w ∧ w ≤ 1000
  · rw [rwide_no hw.1 hw.2]
    simp only [Option.bind_some]
    rw [if_neg (by simp)]
    by_cases h1 : a < 0
    · rw [if_pos h1]; exact bad (fun h => by omega)
    · rw [if_neg h1]
      by_cases h2 : a > 500
      · rw [if_pos h2]; exact bad (fun h => by omega)
      · rw [if_neg h2, rval_is hm (k + 1) (by omega)]
        simp only [Option.bind_some]
        by_cases hb : okP 18 m e = true
        · have hbd := okP_bd (by decide) hb
          rw [hb, Bool.not_true]
          simp only [environref03_Fixed.j0]
          rw [if_neg (by simp)]
          have := rfix_loop hw.1 hw.2 hm hbd.1 hbd.2 (a.toNat + 1) k (by omega) (by omega)
          rw [show ((a.toNat + 1 : Nat) : Int) - 1 = a by omega] at this
          rw [this]
          unfold fixedL
          rw [if_pos ⟨hw, by omega, by omega, hb⟩]
        · rw [Bool.eq_false_iff.2 hb, Bool.not_false]; exact bad (fun h => hb h.2.2.2)
  · rw [rwide_yes hw]
    simp only [Option.bind_some]
    rw [if_pos trivial]; exact bad (fun h => hw h.1)
theorem ib_mem (l : List UInt8) (c : UInt8) : 0 ≤ Lib.indexByte l c ↔ c ∈ l := by
  induction l with
  | nil => simp [Lib.indexByte]
  | cons b l ih =>
    have hg := Lib.indexByte_ge l c
    rw [Lib.indexByte]
    by_cases hb : b = c
    · subst hb; simp
    · rw [if_neg (by simpa using hb)]
      rw [List.mem_cons, ← ih]
      have hb' : ¬ c = b := fun h => hb h.symm
      by_cases h1 : Lib.indexByte l c = -1
      · rw [if_pos (by rw [h1]; rfl), h1]; simp [hb']
      · rw [if_neg (by simpa using h1)]; simp only [hb', false_or]; omega
theorem contains_is (l : List UInt8) : strings_Contains.f (B l) (⟨#[42]⟩ : ByteArray) = some (decide ((42 : UInt8) ∈ l)) := by
  unfold strings_Contains.f
  rw [if_pos (show (⟨#[42]⟩ : ByteArray).size = 1 from rfl)]
  have : (decide (0 ≤ Lib.indexByte (B l).data.toList ((⟨#[42]⟩ : ByteArray).data.toList.headD 0))) = decide ((42 : UInt8) ∈ l) := by
    rw [decide_eq_decide, B_list]; exact ib_mem l 42
  rw [this]
theorem whole_star {n : Int} (w : Int) (hn : I64t n) : (∃ r, wholeL n w = 42 :: r) ∨ (wholeL n w ≠ [] ∧ (42 : UInt8) ∉ wholeL n w) := by
  obtain ⟨u, hu, hg, _⟩ := whole_good (w := w) hn
  rw [pwhole_is w hn] at hu
  have e : wholeL n w = u := B_inj (Option.some.inj hu)
  rw [e]
  rcases hg with h | h | h
  · refine .inl ⟨List.replicate (max w.natAbs 1 - 1) 42, ?_⟩
    rw [h, ← List.replicate_succ, show max w.natAbs 1 - 1 + 1 = max w.natAbs 1 by omega]
  · exact .inl ⟨[], h⟩
  · exact .inr ⟨h.1, fun hm => h.2.1 42 hm rfl⟩
theorem whole_len {n : Int} (w : Int) (hn : I64t n) : (wholeL n w).length ≤ 1000 := by
  obtain ⟨u, hu, _, hl⟩ := whole_good (w := w) hn
  rw [pwhole_is w hn] at hu
  have e : wholeL n w = u := B_inj (Option.some.inj hu)
  rw [e]; exact hl
def float2 (w x e : Int) (l : List UInt8) : List UInt8 := if (42 : UInt8) ∈ wholeL e x then List.replicate (max w.natAbs 1) 42 else fillL w (l ++ [101] ++ wholeL e x)
theorem pfloat_j2 {w x e : Int} (k : Nat) (h0 : -1000 ≤ w) (h1 : w ≤ 1000) (he : I64t e) {l : List UInt8} (hs : l.length ≤ 200000) :
    texts_Float.j2 (k + 1) w x e (B l) = some (B (float2 w x e l)) := by
  have hpl := whole_len x he
  have e101 : (⟨#[101]⟩ : ByteArray) = B [101] := rfl
  simp only [texts_Float.j2]
  rw [pwhole_is x he]
  unfold float2
  generalize wholeL e x = pw at *
  simp only [Option.bind_some]
  have hlen : (l ++ [101] ++ pw).length ≤ 1000000 := by rw [List.length_append, List.length_append, List.length_singleton]; omega
  rw [B_size, if_pos (by omega), e101, B_app, B_size, B_size, if_pos (by rw [List.length_append, List.length_singleton]; omega), B_app, contains_is, filled_ex h0 h1 hlen]
  have hst := stars_is h0 h1
  by_cases hc : (42 : UInt8) ∈ pw
  · rw [decide_eq_true hc, if_pos hc]
    by_cases hf : w = 0 ∨ (l ++ [101] ++ pw).length ≤ w.natAbs
    · rw [if_pos hf]; simp only [Option.bind_some]; rw [if_pos trivial, if_pos trivial, hst]; rfl
    · rw [if_neg hf]; simp only [Option.bind_some]; rw [if_neg (by simp), hst]; rfl
  · rw [decide_eq_false hc, if_neg hc]
    by_cases hf : w = 0 ∨ (l ++ [101] ++ pw).length ≤ w.natAbs
    · rw [if_pos hf]; simp only [Option.bind_some]; rw [if_pos trivial, if_neg (by simp)]
    · rw [if_neg hf]; simp only [Option.bind_some]; rw [if_neg (by simp), hst]
      have hw : w ≠ 0 := fun h => hf (.inl h)
      unfold fillL
      rw [if_neg hw, if_neg (fun h => hf (.inr h)), show max w.natAbs 1 = w.natAbs by omega]; rfl
theorem rfloat_j2 {w x e m E : Int} (k : Nat) (h0 : -1000 ≤ w) (h1 : w ≤ 1000) (hk : 2000 ≤ k) (he : I64t e) {l : List UInt8} (hs : l.length ≤ 200000) :
    environref03_Float.j2 (k + 1) w x (B l) e m E = some (B (float2 w x e (sgL (decide (m < 0)) w ++ l))) := by
  have hpl := whole_len x he
  have hst := whole_star x he
  have hsl := sgL_len (decide (m < 0)) w
  have e101 : (⟨#[101]⟩ : ByteArray) = B [101] := rfl
  simp only [environref03_Float.j2]
  rw [rwhole_is x he k (by omega)]
  unfold float2
  generalize wholeL e x = pw at *
  simp only [Option.bind_some]
  rcases hst with ⟨r, hr⟩ | ⟨hne, hno⟩
  · have hm : (42 : UInt8) ∈ pw := by rw [hr]; exact List.mem_cons_self ..
    have h42 : bt (B pw) 0 = 42 := B_bt hr
    have hl1 : 1 ≤ pw.length := by rw [hr]; simp
    rw [B_size, if_pos (by omega), if_pos h42, if_pos hm]
    by_cases hw : w = 0
    · rw [if_pos hw]; subst hw; rfl
    · rw [if_neg hw, rsize_is h0 h1]
      simp only [Option.bind_some]
      rw [rrep_is (by omega) (by omega) k (by omega)]
      have e := strs_rep w.natAbs 42 (by decide)
      simp only [Option.bind_some]
      rw [Int.toNat_natCast, show max w.natAbs 1 = w.natAbs by omega]; exact congrArg some e
  · obtain ⟨c, r, hcr⟩ : ∃ c r, pw = c :: r := by
      cases pw with
      | nil => exact absurd rfl hne
      | cons c r => exact ⟨c, r, rfl⟩
    have h42 : ¬ bt (B pw) 0 = 42 := by
      rw [B_bt hcr]; intro h
      refine hno ?_
      rw [hcr]
      have : c = 42 := UInt8.toNat_inj.1 (by have : ((42 : UInt8)).toNat = 42 := rfl; omega)
      rw [this]; exact List.mem_cons_self ..
    have hl1 : 1 ≤ pw.length := by rw [hcr]; simp
    rw [B_size, if_pos (by omega), if_neg h42, if_neg hno, rsign_is, sign_ex]
    simp only [Option.bind_some]
    generalize sgL (decide (m < 0)) w = sg at *
    have hlen : (sg ++ l ++ [101] ++ pw).length ≤ 1000000 := by rw [List.length_append, List.length_append, List.length_append, List.length_singleton]; omega
    rw [B_size, B_size, if_pos (by omega), B_app, B_size, if_pos (by rw [List.length_append]; omega), e101, B_app, B_size, if_pos (by rw [List.length_append, List.length_append, List.length_singleton]; omega), B_app, rfill_is h0 h1 hlen k (by omega)]; rfl
def float1 (a : Int) (S : List UInt8) : List UInt8 := if a > 0 then S.take 1 ++ 46 :: S.drop 1 else S.take 1
theorem float1_len (a : Int) (S : List UInt8) : (float1 a S).length ≤ S.length + 2 := by
  unfold float1; split
  · rw [List.length_append, List.length_cons, List.length_take, List.length_drop]; omega
  · rw [List.length_take]; omega
theorem pfloat_j1 {w x e a m E : Int} (k : Nat) (h0 : -1000 ≤ w) (h1 : w ≤ 1000) (he : I64t e) {S : List UInt8} (hn : 1 ≤ S.length) (hs : S.length ≤ 100100) :
    texts_Float.j1 (k + 2) w a x (B S) e m E = some (B (float2 w x e (sgL (decide (m < 0)) w ++ float1 a S))) := by
  have hsl := sgL_len (decide (m < 0)) w
  simp only [texts_Float.j1]
  rw [sign_ex]
  simp only [Option.bind_some]
  generalize sgL (decide (m < 0)) w = sg at *
  have e1 : (B S).extract 0 1 = B (S.take 1) := by rw [B_extract]; rfl
  have e2 : (B S).extract 1 (B S).size = B (S.drop 1) := by
    rw [B_extract, B_size]; congr 1
    exact List.take_of_length_le (by rw [List.length_drop]; exact Nat.le_refl _)
  have e46 : (⟨#[46]⟩ : ByteArray) = B [46] := rfl
  rw [e1, e2, e46]
  simp only [B_app, B_size]
  have ht : (S.take 1).length = 1 := by rw [List.length_take]; omega
  rw [if_pos (by decide), if_pos (by omega), if_pos (by rw [ht]; omega)]
  unfold float1
  by_cases ha : a > 0
  · rw [if_pos ha, if_pos ha, if_pos (by rw [List.length_drop]; omega), if_pos (by simp; omega)]
    have : sg ++ S.take 1 ++ ([46] ++ S.drop 1) = sg ++ (S.take 1 ++ 46 :: S.drop 1) := by simp
    rw [this]
    exact pfloat_j2 k h0 h1 he (by rw [List.length_append, List.length_append, List.length_cons, List.length_drop, ht]; omega)
  · rw [if_neg ha, if_neg ha]
    exact pfloat_j2 k h0 h1 he (by rw [List.length_append, ht]; omega)
theorem rfloat_j1 {w x e a m E : Int} (k : Nat) (h0 : -1000 ≤ w) (h1 : w ≤ 1000) (hk : 2000 ≤ k) (he : I64t e) {S : List UInt8} (hn : 1 ≤ S.length) (hs : S.length ≤ 100100) (hone : ¬ a > 0 → S.length = 1) :
    environref03_Float.j1 (k + 2) w a x (B S) e m E = some (B (float2 w x e (sgL (decide (m < 0)) w ++ float1 a S))) := by
  simp only [environref03_Float.j1]
  have e1 : (B S).extract 0 1 = B (S.take 1) := by rw [B_extract]; rfl
  have e2 : (B S).extract 1 (B S).size = B (S.drop 1) := by
    rw [B_extract, B_size]; congr 1
    exact List.take_of_length_le (by rw [List.length_drop]; exact Nat.le_refl _)
  have e46 : (⟨#[46]⟩ : ByteArray) = B [46] := rfl
  have ht : (S.take 1).length = 1 := by rw [List.length_take]; omega
  have hl := float1_len a S
  unfold float1 at hl ⊢
  by_cases ha : a > 0
  · rw [if_pos ha, if_pos ha, if_pos (by decide), e1, e2, e46]
    simp only [B_app, B_size]
    rw [if_pos (by omega), if_pos (by rw [ht]; omega), if_pos (by rw [List.length_append, ht, List.length_drop, List.length_singleton]; omega)]
    have : S.take 1 ++ [46] ++ S.drop 1 = S.take 1 ++ 46 :: S.drop 1 := by simp
    rw [this]
    rw [if_pos ha] at hl
    exact rfloat_j2 k h0 h1 hk he (by omega)
  · have : S.take 1 = S := List.take_of_length_le (by have := hone ha; omega)
    rw [if_neg ha, if_neg ha, this]
    exact rfloat_j2 k h0 h1 hk he (by omega)
def fdig (m e a : Int) : List UInt8 × Int :=
  if m = 0 then (List.replicate (a + 1).toNat 48, 0)
  else
    let n : Int := (Lib.decDigits m.natAbs).length
    let S := scaledL m (1 - n + a)
    if (S.length : Int) > a + 1 then (S.take (a + 1).toNat, e + n) else (S, e + n - 1)
def floatL (m e w a x : Int) : List UInt8 := if (-1000 ≤ w ∧ w ≤ 1000) ∧ (-1000 ≤ x ∧ x ≤ 1000) ∧ 0 ≤ a ∧ a ≤ 500 ∧ okP 18 m e = true then float2 w x (fdig m e a).2 (sgL (decide (m < 0)) w ++ float1 a (fdig m e a).1) else [42]
theorem pfloat_is {m e w a x : Int} (k : Nat) (hk : 10 ≤ k) (hm : I64t m) : texts_Float.f k m e w a x = some (B (floatL m e w a x)) := by
  obtain ⟨k, rfl⟩ : ∃ j, k = j + 3 := ⟨k - 3, by omega⟩
  have bad : ¬ ((-1000 ≤ w ∧ w ≤ 1000) ∧ (-1000 ≤ x ∧ x ≤ 1000) ∧ 0 ≤ a ∧ a ≤ 500 ∧ okP 18 m e = true) → texts_Float.j0 (k + 3) w a x true m e = some (B (floatL m e w a x)) := by
    intro h
    unfold floatL
    rw [if_neg h]
    simp only [texts_Float.j0]
    rw [if_pos trivial, stars_is (by decide) (by decide)]; rfl
  unfold texts_Float.f
  by_cases h1 : a < 0
  · rw [if_pos h1]; exact bad (fun h => by omega)
  rw [if_neg h1]
  by_cases h2 : a > 500
  · rw [if_pos h2]; exact bad (fun h => by omega)
  rw [if_neg h2]
  by_cases hw : -1000 ≤ w ∧ w ≤ 1000
  rotate_left
  · rw [wide_yes hw]; simp only [Option.bind_some]; rw [if_pos trivial]; exact bad (fun h => hw h.1)
  rw [wide_no hw.1 hw.2]
  simp only [Option.bind_some]
  rw [if_neg (by simp)]
  by_cases hx : -1000 ≤ x ∧ x ≤ 1000
  rotate_left
  · rw [wide_yes hx]; simp only [Option.bind_some]; rw [if_pos trivial]; exact bad (fun h => hx h.2.1)
  rw [wide_no hx.1 hx.2]
  simp only [Option.bind_some]
  rw [if_neg (by simp), pvalid_all hm (k + 2)]
  simp only [Option.bind_some]
  by_cases hb : okP 18 m e = true
  rotate_left
  · rw [Bool.eq_false_iff.2 hb]; exact bad (fun h => hb h.2.2.2.2)
  have hbd := okP_bd (by decide) hb
  unfold floatL
  rw [if_pos ⟨hw, hx, by omega, by omega, hb⟩, hb]
  unfold fdig
  simp only [texts_Float.j0]
  have ha1 : wrap64 (a + 1) = a + 1 := t64 (by omega) (by omega)
  rw [if_neg (by simp), ha1, repeat_is 48 (by omega) (by omega)]
  simp only [Option.bind_some]
  by_cases hz : m = 0
  · rw [if_pos hz, if_pos hz]
    exact pfloat_j1 k hw.1 hw.2 (by unfold I64t; omega) (by rw [List.length_replicate]; omega) (by rw [List.length_replicate]; omega)
  · rw [if_neg hz, if_neg hz, magnitude_is hm]
    simp only [Option.bind_some]
    have hdl := dd_len m.natAbs 18 (by unfold I64t at hm; omega)
    have hdn : 1 ≤ (Lib.decDigits m.natAbs).length := List.length_pos_iff.2 (dd_ne _)
    have hne := scaledL_ne (m := m) (k := 1 - ((Lib.decDigits m.natAbs).length : Int) + a) (by omega) (by omega)
    have hlen := scaledL_len hm (k := 1 - ((Lib.decDigits m.natAbs).length : Int) + a) (by omega)
    have hsc := sc_is (m := m) (e := 1 - ((Lib.decDigits m.natAbs).length : Int)) (a := a) hm (by omega) (by omega)
    have hp : 1 ≤ (scaledL m (1 - ((Lib.decDigits m.natAbs).length : Int) + a)).length := List.length_pos_iff.2 hne
    rw [B_size]
    generalize (Lib.decDigits m.natAbs).length = n at *
    have w1 : wrap64 (e + (n : Int)) = e + n := t64 (by omega) (by omega)
    have w2 : wrap64 (e + (n : Int) - 1) = e + n - 1 := t64 (by omega) (by omega)
    have w3 : wrap64 (e - (e + (n : Int) - 1)) = 1 - n := by rw [t64 (by omega) (by omega)]; omega
    rw [w1, w2, w3, hsc]
    simp only [Option.bind_some]
    generalize scaledL m (1 - (n : Int) + a) = S at *
    rw [B_size]
    by_cases hg : (S.length : Int) > a + 1
    · have w4 : wrap64 (e + (n : Int) - 1 + 1) = e + n := by rw [t64 (by omega) (by omega)]; omega
      have hl : (S.take (a + 1).toNat).length = (a + 1).toNat := by rw [List.length_take]; omega
      rw [if_pos hg, if_pos hg, if_pos (by omega), if_pos (by omega), B_extract, List.drop_zero, Nat.sub_zero, w4]
      exact pfloat_j1 k hw.1 hw.2 (by unfold I64t; omega) (by omega) (by omega)
    · rw [if_neg hg, if_neg hg]
      exact pfloat_j1 k hw.1 hw.2 (by unfold I64t; omega) hp hlen
theorem dec_scaled {m k : Int} (hm : m ≠ 0) (hne : scaledL m k ≠ []) : decL (roundL m k) = scaledL m k := by
  rw [scaled_round hm] at hne ⊢
  unfold decL
  rw [if_neg (fun h => hne (by rw [h]; rfl))]
theorem rfloat_is {m e w a x : Int} (k : Nat) (hk : 6000 ≤ k) (hm : I64t m) : environref03_Float.f k m e w a x = some (B (floatL m e w a x)) := by
  obtain ⟨k, rfl⟩ : ∃ j, k = j + 3 := ⟨k - 3, by omega⟩
  have bad : ¬ ((-1000 ≤ w ∧ w ≤ 1000) ∧ (-1000 ≤ x ∧ x ≤ 1000) ∧ 0 ≤ a ∧ a ≤ 500 ∧ okP 18 m e = true) → environref03_Float.j0 (k + 3) w a x true m e = some (B (floatL m e w a x)) := by
    intro h
    unfold floatL
    rw [if_neg h]
    simp only [environref03_Float.j0]
    rw [if_pos trivial]; rfl
  unfold environref03_Float.f
  by_cases hw : -1000 ≤ w ∧ w ≤ 1000
  rotate_left
  · rw [rwide_yes hw]; simp only [Option.bind_some]; rw [if_pos trivial]; exact bad (fun h => hw h.1)
  rw [rwide_no hw.1 hw.2]
  simp only [Option.bind_some]
  rw [if_neg (by simp)]
  by_cases hx : -1000 ≤ x ∧ x ≤ 1000
  rotate_left
  · rw [rwide_yes hx]; simp only [Option.bind_some]; rw [if_pos trivial]; exact bad (fun h => hx h.2.1)
  rw [rwide_no hx.1 hx.2]
  simp only [Option.bind_some]
  rw [if_neg (by simp)]
  by_cases h1 : a < 0
  · rw [if_pos h1]; exact bad (fun h => by omega)
  rw [if_neg h1]
  by_cases h2 : a > 500
  · rw [if_pos h2]; exact bad (fun h => by omega)
  rw [if_neg h2, rval_is hm (k + 3) (by omega)]
  simp only [Option.bind_some]
  by_cases hb : okP 18 m e = true
  rotate_left
  · rw [Bool.eq_false_iff.2 hb, Bool.not_false]; exact bad (fun h => hb h.2.2.2.2)
  have hbd := okP_bd (by decide) hb
  unfold floatL
  rw [if_pos ⟨hw, hx, by omega, by omega, hb⟩, hb, Bool.not_true]
  unfold fdig
  simp only [environref03_Float.j0]
  have ha1 : wrap64 (a + 1) = a + 1 := t64 (by omega) (by omega)
  rw [if_neg (by simp), ha1, rrep_is (by omega) (by omega) (k + 2) (by omega)]
  simp only [Option.bind_some]
  by_cases hz : m = 0
  · have e := strs_rep (a + 1).toNat 48 (by decide)
    rw [if_pos hz, if_pos hz, show (48 : Int) = ((48 : Nat) : Int) from rfl, e]
    exact rfloat_j1 k hw.1 hw.2 (by omega) (by unfold I64t; omega) (by rw [List.length_replicate]; omega) (by rw [List.length_replicate]; omega) (fun h => by rw [List.length_replicate]; omega)
  · have hu : m.natAbs ≠ 0 := by omega
    have hll : (lowD m.natAbs).length = (Lib.decDigits m.natAbs).length := by rw [← txt_low hu, txtD_len]
    rw [if_neg hz, if_neg hz, of_is hm (k + 2) (by omega)]
    simp only [Option.bind_some]
    rw [hll]
    have hdl := dd_len m.natAbs 18 (by unfold I64t at hm; omega)
    have hdn : 1 ≤ (Lib.decDigits m.natAbs).length := List.length_pos_iff.2 (dd_ne _)
    have hne := scaledL_ne (m := m) (k := 1 - ((Lib.decDigits m.natAbs).length : Int) + a) (by omega) (by omega)
    have hlen := scaledL_len hm (k := 1 - ((Lib.decDigits m.natAbs).length : Int) + a) (by omega)
    have hdec := dec_scaled hz hne
    have hrl := roundL_len m (1 - ((Lib.decDigits m.natAbs).length : Int) + a) hm
    have hrd := roundL_dig m (1 - ((Lib.decDigits m.natAbs).length : Int) + a)
    have hp : 1 ≤ (scaledL m (1 - ((Lib.decDigits m.natAbs).length : Int) + a)).length := List.length_pos_iff.2 hne
    generalize (Lib.decDigits m.natAbs).length = n at *
    have w1 : wrap64 (e + (n : Int)) = e + n := t64 (by omega) (by omega)
    have w2 : wrap64 (e + (n : Int) - 1) = e + n - 1 := t64 (by omega) (by omega)
    have w3 : wrap64 (a - (e + (n : Int) - 1)) = a - (e + n - 1) := t64 (by omega) (by omega)
    have w5 : e + (a - (e + (n : Int) - 1)) = 1 - n + a := by omega
    rw [w1, w2, w3, rounded_is hm (by omega) (by omega) (k + 2) (by omega), w5]
    simp only [Option.bind_some]
    rw [dec_is hrd (by omega) (k + 2) (by omega), hdec]
    simp only [Option.bind_some]
    generalize scaledL m (1 - (n : Int) + a) = S at *
    rw [B_size]
    by_cases hg : (S.length : Int) > a + 1
    · have w4 : wrap64 (e + (n : Int) - 1 + 1) = e + n := by rw [t64 (by omega) (by omega)]; omega
      have hl : (S.take (a + 1).toNat).length = (a + 1).toNat := by rw [List.length_take]; omega
      rw [if_pos hg, if_pos hg, if_pos (by omega), if_pos (by omega), B_extract, List.drop_zero, Nat.sub_zero, w4]
      exact rfloat_j1 k hw.1 hw.2 (by omega) (by unfold I64t; omega) (by omega) (by omega) (fun h => by omega)
    · rw [if_neg hg, if_neg hg]
      exact rfloat_j1 k hw.1 hw.2 (by omega) (by unfold I64t; omega) hp hlen (fun h => by omega)
theorem cast_p (n : Nat) : ((2 : Int) ^ n) = ((2 ^ n : Nat) : Int) := by rw [Int.natCast_pow]; rfl
theorem p60 {n : Nat} (h : n ≤ 60) : 2 ^ n ≤ 1152921504606846976 := Nat.le_trans (Nat.pow_le_pow_right (by decide) h) (by decide)
theorem shr_nat (x m : Nat) (h : m ≤ 64) : shr .i64 (x : Int) (m : Int) = ((x / 2 ^ m : Nat) : Int) := by
  unfold shr
  have e : min (m : Int).toNat IntKind.i64.bits = m := by
    rw [Int.toNat_natCast]; simp [IntKind.bits]; omega
  rw [e, cast_p]; rfl
theorem shl1n {n : Nat} (h : n ≤ 60) : shl .i64 1 (n : Int) = ((2 ^ n : Nat) : Int) := by
  unfold shl
  have e : min (n : Int).toNat IntKind.i64.bits = n := by
    rw [Int.toNat_natCast]; simp [IntKind.bits]; omega
  have hp := p60 h
  rw [e, cast_p, Int.one_mul, IntKind.wrap_i64]
  generalize 2 ^ n = p at *
  omega
theorem bit1 (n : Int) : Go.bits .and .i64 n 1 = n % 2 := by
  have e : (BitVec.ofInt 64 n &&& BitVec.ofInt 64 1).toNat = (BitVec.ofInt 64 n).toNat % 2 := by
    rw [BitVec.toNat_and]; show (BitVec.ofInt 64 n).toNat &&& 1 = _; exact Nat.and_one_is_mod _
  show IntKind.i64.wrap ((BitVec.ofInt 64 n &&& BitVec.ofInt 64 1).toNat : Int) = n % 2
  rw [e, BitVec.toNat_ofInt, IntKind.wrap_i64]
  omega
def isW (n : Nat) (w : Int) : Bool := decide (0 ≤ w ∧ w < ((2 ^ n : Nat) : Int))
def bitL (n u i : Nat) : UInt8 := if u / 2 ^ (n - 1 - i) % 2 = 1 then 84 else 70
def wordL (n u : Nat) : List UInt8 := (List.range n).map (bitL n u)
theorem phasw_is {t w : Int} {n : Nat} (hn : n ≤ 60) : ints_length_hasWord.f t n w = some (isW n w) := by
  unfold ints_length_hasWord.f isW
  rw [shl1n hn]
  by_cases h : w ≥ 0
  · rw [if_pos h, if_pos (by omega)]; congr 1; rw [decide_eq_decide]; exact ⟨fun x => ⟨h, x⟩, fun x => x.2⟩
  · rw [if_neg h, decide_eq_false (fun x => h x.1)]
theorem pisword_is {s t w : Int} {n : Nat} (hof : ints_of.f s = some (t, (n : Int), 0)) (hn : n ≤ 60) (k : Nat) : ints_IsWord.f (k + 2) s w = some (isW n w) := by
  unfold ints_IsWord.f ints_words.f
  rw [hof]; simp only [Option.bind_some]
  simp only [ints_words.l0, List.length_singleton]
  rw [if_pos (by decide), if_pos (by decide), if_pos (by decide)]
  have e1 : wrap64 (0 + 1) = 1 := t64 (by omega) (by omega)
  have hr : rd [w] 0 = w := rfl
  rw [e1, hr, phasw_is hn]; simp only [Option.bind_some]
  cases isW n w <;> simp
theorem pword_loop {n u : Nat} (hn : n ≤ 60) : ∀ (r i k : Nat), i + r = n → r + 1 ≤ k →
    texts_Word.l0 k (u : Int) n ((List.range i).map (fun j => ((bitL n u j).toNat : Int)) ++ List.replicate r 0) n i = some (strOfNums ((List.range n).map (fun j => ((bitL n u j).toNat : Int))), 0) := by
  intro r
  induction r with
  | zero =>
    intro i k hi hk
    obtain ⟨k, rfl⟩ : ∃ j, k = j + 1 := ⟨k - 1, by omega⟩
    obtain rfl : i = n := by omega
    simp only [texts_Word.l0]
    rw [if_neg (by omega), List.replicate_zero, List.append_nil]
  | succ r ih =>
    intro i k hi hk
    obtain ⟨k, rfl⟩ : ∃ j, k = j + 1 := ⟨k - 1, by omega⟩
    simp only [texts_Word.l0]
    have e1 : wrap64 ((wrap64 ((n : Int) - 1)) - (i : Int)) = ((n - 1 - i : Nat) : Int) := by rw [t64 (n := (n : Int) - 1) (by omega) (by omega), t64 (by omega) (by omega)]; omega
    have hA : ((List.range i).map (fun j => ((bitL n u j).toNat : Int))).length = i := by rw [List.length_map, List.length_range]
    have hb : bt (⟨#[70, 84]⟩ : ByteArray) (((u / 2 ^ (n - 1 - i) : Nat) : Int) % 2) = ((bitL n u i).toNat : Int) := by
      unfold bitL
      generalize u / 2 ^ (n - 1 - i) = q
      by_cases h : q % 2 = 1
      · rw [if_pos h, show ((q : Int) % 2) = 1 by omega]; rfl
      · rw [if_neg h, show ((q : Int) % 2) = 0 by omega]; rfl
    have hs : ∀ v : Int, ((List.range i).map (fun j => ((bitL n u j).toNat : Int)) ++ List.replicate (r + 1) 0).set i v = (List.range i).map (fun j => ((bitL n u j).toNat : Int)) ++ v :: List.replicate r 0 := fun v => by
      rw [List.set_append_right _ _ (by rw [hA]; exact Nat.le_refl _), hA, Nat.sub_self, List.replicate_succ, List.set_cons_zero]
    rw [e1, shr_nat u (n - 1 - i) (by omega), bit1, if_pos (by omega), if_pos (by omega), if_pos (by omega), if_pos (by omega), if_pos (by omega), if_pos (by rw [List.length_append, hA, List.length_replicate]; omega), hb, Int.toNat_natCast, hs, t64 (by omega) (by omega)]
    have := ih (i + 1) k (by omega) (by omega)
    rw [List.range_succ, List.map_append, List.append_assoc] at this
    exact this
theorem word_nums (n u : Nat) : strOfNums ((List.range n).map (fun j => ((bitL n u j).toNat : Int))) = B (wordL n u) := by
  unfold strOfNums B wordL
  rw [List.map_map]
  have : ((fun (z : Int) => UInt8.ofNat z.toNat) ∘ fun j => ((bitL n u j).toNat : Int)) = bitL n u := by
    funext j
    show UInt8.ofNat ((((bitL n u j).toNat : Int)).toNat) = _
    rw [Int.toNat_natCast, UInt8.ofNat_toNat]
  first
    | rw [this]
    | (simp only [Function.comp_def] at this ⊢; simp [UInt8.ofNat_toNat])
theorem pword_is {s t w : Int} {n : Nat} (hof : ints_of.f s = some (t, (n : Int), 0)) (hn : n ≤ 60) (k : Nat) (hk : 100 ≤ k) : texts_Word.f k s w = some (if isW n w = true then (B (wordL n w.toNat), 0) else (B [], 11)) := by
  obtain ⟨k, rfl⟩ : ∃ j, k = j + 2 := ⟨k - 2, by omega⟩
  have hW : ints_Width.f s = some ((n : Int), 0) := by unfold ints_Width.f; rw [hof]; rfl
  unfold texts_Word.f
  rw [hW, Option.bind_some, if_pos (by trivial), pisword_is hof hn k, Option.bind_some]
  by_cases h : isW n w = true
  · rw [if_pos h, if_pos h, if_pos (by omega), if_pos (by omega), Option.bind_some]
    have hw : 0 ≤ w := (of_decide_eq_true h).1
    have := pword_loop (n := n) (u := w.toNat) hn n 0 (k + 2) (by omega) (by omega)
    rw [List.range_zero, List.map_nil, List.nil_append, word_nums, Int.toNat_of_nonneg hw] at this
    rw [List.length_replicate, Int.toNat_natCast]
    exact this
  · rw [if_neg h, if_neg h]; rfl
theorem risword_is {s w : Int} {n : Nat} (hW : environref01_Width.f s = some ((n : Int), 0)) (hn : n ≤ 60) : environref01_IsWord.f s w = some (isW n w) := by
  unfold environref01_IsWord.f isW
  rw [hW, Option.bind_some, if_pos (by trivial)]
  by_cases h : w ≥ 0
  · obtain ⟨u, rfl⟩ : ∃ u : Nat, w = u := ⟨w.toNat, by omega⟩
    rw [if_pos h, if_pos (by omega), shr_nat u n (by omega)]
    congr 1
    have hp : 0 < 2 ^ n := Nat.two_pow_pos n
    rw [Bool.eq_iff_iff, beq_iff_eq, decide_eq_true_eq]
    constructor
    · intro hq
      have : u / 2 ^ n = 0 := by omega
      rcases Nat.div_eq_zero_iff.1 this with h | h <;> omega
    · intro hq
      have : u / 2 ^ n = 0 := Nat.div_eq_of_lt (by omega)
      omega
  · rw [if_neg h, decide_eq_false (fun x => h x.1)]
theorem relem_is {s : Int} {n u i : Nat} (hW : environref01_Width.f s = some ((n : Int), 0)) (hn : n ≤ 60) (hu : isW n u = true) (hi : i < n) :
    environref01_Elem.f s ((i : Int) + 1) u = some (decide (u / 2 ^ (n - 1 - i) % 2 = 1), 0) := by
  have h0 : isW n 0 = true := decide_eq_true ⟨by decide, by have : 0 < 2 ^ n := Nat.two_pow_pos n; omega⟩
  unfold environref01_Elem.f environref01_words.f
  rw [hW, Option.bind_some, if_pos (by trivial), risword_is hW hn, Option.bind_some, if_pos hu, risword_is hW hn, Option.bind_some, if_pos h0, Option.bind_some, if_pos (by trivial), Option.bind_some, if_neg (by omega), if_neg (by show ¬ ((i : Int) + 1 > (n : Int)); omega)]
  unfold environref01_bitAt.f
  have e1 : wrap64 ((n : Int) - ((i : Int) + 1)) = ((n - 1 - i : Nat) : Int) := by rw [t64 (by omega) (by omega)]; omega
  show ((if (i : Int) + 1 < 1 then some 0 else if (i : Int) + 1 > (n : Int) then some 0 else if 0 ≤ wrap64 ((n : Int) - ((i : Int) + 1)) then some (Int.tmod (shr .i64 (u : Int) (wrap64 ((n : Int) - ((i : Int) + 1)))) 2) else none).bind fun t466 => some (t466 == 1, 0)) = _
  rw [if_neg (by omega), if_neg (by omega), e1, if_pos (by omega), Option.bind_some, shr_nat u _ (by omega)]
  congr 2
  generalize u / 2 ^ (n - 1 - i) = q
  have : Int.tmod (q : Int) 2 = ((q % 2 : Nat) : Int) := rfl
  rw [this, Bool.eq_iff_iff, beq_iff_eq, decide_eq_true_eq]; omega
theorem rword_loop {s : Int} {n u : Nat} (hW : environref01_Width.f s = some ((n : Int), 0)) (hn : n ≤ 60) (hu : isW n u = true) : ∀ (r i k : Nat), i + r = n → r + 1 ≤ k →
    environref03_Word.l0 k s u n (B ((List.range i).map (bitL n u))) ((i : Int) + 1) = some (B (wordL n u), 0) := by
  intro r
  induction r with
  | zero =>
    intro i k hi hk
    obtain ⟨k, rfl⟩ : ∃ j, k = j + 1 := ⟨k - 1, by omega⟩
    obtain rfl : i = n := by omega
    simp only [environref03_Word.l0]
    rw [if_neg (by omega)]; rfl
  | succ r ih =>
    intro i k hi hk
    obtain ⟨k, rfl⟩ : ∃ j, k = j + 1 := ⟨k - 1, by omega⟩
    simp only [environref03_Word.l0]
    have e1 : wrap64 ((i : Int) + 1 + 1) = ((i + 1 : Nat) : Int) + 1 := by rw [t64 (by omega) (by omega)]; omega
    have := ih (i + 1) k (by omega) (by omega)
    rw [List.range_succ, List.map_append, ← B_app] at this
    rw [if_pos (by omega), relem_is hW hn hu (by omega), Option.bind_some, e1]
    have hsz : (B ((List.range i).map (bitL n u))).size + 1 ≤ 9223372036854775807 := by rw [B_size, List.length_map, List.length_range]; omega
    by_cases hq : u / 2 ^ (n - 1 - i) % 2 = 1
    · have hb : bitL n u i = 84 := if_pos hq
      rw [if_pos (decide_eq_true hq), if_pos hsz]
      rw [List.map_cons, List.map_nil, hb] at this
      exact this
    · have hb : bitL n u i = 70 := if_neg hq
      rw [if_neg (by rw [decide_eq_false hq]; simp), if_pos hsz]
      rw [List.map_cons, List.map_nil, hb] at this
      exact this
theorem rword_is {s w : Int} {n : Nat} (hW : environref01_Width.f s = some ((n : Int), 0)) (hn : n ≤ 60) (k : Nat) (hk : 100 ≤ k) : environref03_Word.f k s w = some (if isW n w = true then (B (wordL n w.toNat), 0) else (B [], 11)) := by
  unfold environref03_Word.f
  rw [hW, Option.bind_some, if_pos (by trivial), risword_is hW hn, Option.bind_some]
  by_cases h : isW n w = true
  · have hw : 0 ≤ w := (of_decide_eq_true h).1
    obtain ⟨u, rfl⟩ : ∃ u : Nat, w = u := ⟨w.toNat, by omega⟩
    rw [if_pos h, if_pos h]
    have := rword_loop hW hn h n 0 k (by omega) (by omega)
    exact this
  · rw [if_neg h, if_neg h]; rfl
theorem word_step {w s : Int} {k : Nat} (hs : -2 ≤ s) (hs2 : s ≤ 2) (hk : 100 ≤ k) (next : environlaw03_TextsWrites.l0 k w (s + 1) = some true) : environlaw03_TextsWrites.l0 (k + 1) w s = some true := by
  simp only [environlaw03_TextsWrites.l0]
  have hw : wrap64 (s + 1) = s + 1 := t64 (by omega) (by omega)
  have both : ∃ x, texts_Word.f k s w = some x ∧ environref03_Word.f k s w = some x := by
    by_cases h1 : s = -1
    · subst h1; exact ⟨_, pword_is (n := 16) rfl (by decide) k hk, rword_is (n := 16) rfl (by decide) k hk⟩
    · by_cases h2 : s = 0
      · subst h2; exact ⟨_, pword_is (n := 32) rfl (by decide) k hk, rword_is (n := 32) rfl (by decide) k hk⟩
      · by_cases h3 : s = 1
        · subst h3; exact ⟨_, pword_is (n := 60) rfl (by decide) k hk, rword_is (n := 60) rfl (by decide) k hk⟩
        · refine ⟨((⟨#[]⟩ : ByteArray), 1), ?_, ?_⟩
          · unfold texts_Word.f ints_Width.f ints_of.f
            rw [if_neg h1, if_neg h2, if_neg h3]; rfl
          · unfold environref03_Word.f environref01_Width.f
            rw [if_neg h1, if_neg h2, if_neg h3]; rfl
  obtain ⟨x, e1, e2⟩ := both
  rw [if_pos hs2, e1, e2, Option.bind_some, Option.bind_some, if_pos rfl, if_pos rfl, hw, next]
theorem awake03 (k : Nat) (hk : k = 8000) : environlaw03_awake.f k = some true := by
  subst hk; decide +kernel
theorem textsWrites_is {n m e w a x : Int} (hn : I64t n) (hm : I64t m) (k : Nat) (hk : k = 8000) : environlaw03_TextsWrites.f k n m e w a x = some true := by
  unfold environlaw03_TextsWrites.f
  rw [awake03 k hk, Option.bind_some, if_pos rfl, pwhole_is w hn, rwhole_is w hn k (by omega), Option.bind_some, Option.bind_some, if_pos rfl, pfixed_is k (by omega) hm, rfixed_is k (by omega) hm, Option.bind_some, Option.bind_some, if_pos rfl, pfloat_is k (by omega) hm, rfloat_is k (by omega) hm, Option.bind_some, Option.bind_some]
  obtain ⟨k, rfl⟩ : ∃ j, k = j + 7 := ⟨k - 7, by omega⟩
  have hf : ((B (floatL m e w a x)).toList != (B (floatL m e w a x)).toList) = false := by simp
  rw [hf]
  simp only [environlaw03_TextsWrites.j0]
  rw [if_neg (by simp)]
  have s3 : environlaw03_TextsWrites.l0 (k + 1) n 3 = some true := by
    simp only [environlaw03_TextsWrites.l0]
    rw [if_neg (by decide)]
  exact word_step (k := k + 5) (by decide) (by decide) (by omega) (word_step (k := k + 4) (by decide) (by decide) (by omega) (word_step (k := k + 3) (by decide) (by decide) (by omega) (word_step (k := k + 2) (by decide) (by decide) (by omega) (word_step (k := k + 1) (by decide) (by decide) (by omega) s3))))
theorem textsWrites_walk (n m e w a x : Int) (W : World) (hE : Env W) (hn : I64t n) (hm : I64t m) :
    Calls Tryz.prog 4 #[.int .i64 n, .agg #[.int .i64 m, .int .i64 e], .agg #[.int .i64 w, .int .i64 a, .int .i64 x]] W fun e' w' => e' = .returned (.bool true) ∧ Below W.heap.size W w' :=
  environlaw03_TextsWrites.calls 8000 n m e w a x true W hE (textsWrites_is hn hm 8000 rfl)
end Go.Proofs.YtckbmniiecbalaaGreatDoor.PT
