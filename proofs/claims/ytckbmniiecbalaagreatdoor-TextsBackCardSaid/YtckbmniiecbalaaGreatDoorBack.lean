import Derived.Test.YtckbmniiecbalaaGreatDoorRrB
import Derived.Test.YtckbmniiecbalaaGreatDoorPTgSm
import Derived.Test.YtckbmniiecbalaaGreatDoorPTgTn
import Derived.Test.YtckbmniiecbalaaGreatDoorPTgTd
import Derived.Test.YtckbmniiecbalaaGreatDoorPTgTc
import Derived.Test.YtckbmniiecbalaaGreatDoorPTgTh
import Derived.Test.YtckbmniiecbalaaGreatDoorPTgTg
import Derived.Test.YtckbmniiecbalaaGreatDoorPTgTf
import Derived.Test.YtckbmniiecbalaaGreatDoorPTgTm
import Derived.Test.YtckbmniiecbalaaGreatDoorPTgTl
import Derived.Test.YtckbmniiecbalaaGreatDoorPTgTk
import Derived.Test.YtckbmniiecbalaaGreatDoorPTgRa
namespace Go.Proofs.YtckbmniiecbalaaGreatDoor.PT
open Go.RowKit Go.Proofs.YtckbmniiecbalaaGreatDoorW.PrintWords Go.Proofs.YtckbmniiecbalaaGreatDoorW.PrintLast Go.Proofs.YtckbmniiecbalaaGreatDoorW.PrintMore
set_option linter.unusedVariables false
set_option linter.unusedSimpArgs false
theorem dd_range (u : Nat) : ∀ c ∈ Lib.decDigits u, 48 ≤ c.toNat ∧ c.toNat ≤ 57 := by
 induction u using Nat.strongRecOn with
 | ind u ih =>
  intro c hc
  rw [Lib.decDigits] at hc
  split at hc
  ·rename_i h
   rw [List.mem_singleton] at hc; subst hc
   rw [UInt8.toNat_ofNat', Nat.mod_eq_of_lt (by omega)]; omega
  ·rename_i h
   rcases List.mem_append.1 hc with hc | hc
   ·exact ih (u / 10) (by omega) c hc
   ·rw [List.mem_singleton] at hc; subst hc
    rw [UInt8.toNat_ofNat', Nat.mod_eq_of_lt (by omega)]; omega
theorem dd_ne (u : Nat) : Lib.decDigits u ≠ [] := by
 rw [Lib.decDigits]; split <;> simp
theorem dd_len (u : Nat) : ∀ k : Nat, u < 10 ^ (k + 1) → (Lib.decDigits u).length ≤ k + 1 := by
 intro k
 induction k generalizing u with
 | zero => intro h; rw [Lib.decDigits, dif_pos (by omega)]; simp
 | succ k ih =>
  intro h
  rw [Lib.decDigits]
  split
  ·simp
  ·rw [List.length_append, List.length_singleton]
   have := ih (u / 10) (by rw [Nat.pow_succ] at h; omega)
   omega
theorem dd_head {u : Nat} (h : u ≠ 0) : ∃ c r, Lib.decDigits u = c :: r ∧ 49 ≤ c.toNat := by
 induction u using Nat.strongRecOn with
 | ind u ih =>
  rw [Lib.decDigits]
  split
  ·exact ⟨_, [], rfl, by rw [UInt8.toNat_ofNat', Nat.mod_eq_of_lt (by omega)]; omega⟩
  ·obtain ⟨c, r, e, hc⟩ := ih (u / 10) (by omega) (by omega)
   exact ⟨c, r ++ [_], by rw [e]; rfl, hc⟩
def I64t (n : Int) : Prop := -9223372036854775808 ≤ n ∧ n ≤ 9223372036854775807
theorem t64 {n : Int} (h : -9223372036854775808 ≤ n) (h' : n ≤ 9223372036854775807) : wrap64 n = n := by unfold wrap64; omega
def B (l : List UInt8) : ByteArray := ⟨l.toArray⟩
theorem B_list (l : List UInt8) : (B l).data.toList = l := rfl
theorem B_size (l : List UInt8) : (B l).size = l.length := by show l.toArray.size = _; simp
theorem B_app (l r : List UInt8) : B l ++ B r = B (l ++ r) := by
 apply ByteArray.ext; rw [ByteArray.data_append]; simp [B]
theorem B_inj {l r : List UInt8} (h : B l = B r) : l = r := by
 have := congrArg (fun s : ByteArray => s.data.toList) h; exact this
theorem B_toList (l : List UInt8) : (B l).toList = l := by rw [ByteArray.toList_eq]; rfl
theorem rep1 (c : UInt8) (n : Nat) : Lib.repeatL [c] n = List.replicate n c := by
 induction n with
 | zero => rfl
 | succ n ih => rw [Lib.repeatL, ih, List.replicate_succ]; rfl
theorem repeat_is (c : UInt8) {n : Int} (h0 : 0 ≤ n) (h1 : n ≤ 1000000) : strings_Repeat.f (⟨#[c]⟩ : ByteArray) n = some (B (List.replicate n.toNat c)) := by
 unfold strings_Repeat.f
 have hs : (⟨#[c]⟩ : ByteArray).size = 1 := rfl
 rw [if_pos ⟨h0, by omega, by rw [hs]; omega⟩]
 congr 1
 show B (Lib.repeatL [c] n.toNat) = _
 rw [rep1]
theorem stars_is {w : Int} (h0 : -1000 ≤ w) (h1 : w ≤ 1000) : texts_stars.f w = some (B (List.replicate (max w.natAbs 1) 42)) := by
 unfold texts_stars.f
 rw [t64 (by omega) (by omega), repeat_is 42 (by unfold mx; split <;> split <;> omega) (by unfold mx; split <;> split <;> omega)]
 simp only [Option.bind_some]
 congr 3
 unfold mx; split <;> split <;> omega
theorem magnitude_is {n : Int} (h : I64t n) : texts_magnitude.f n = some (B (Lib.decDigits n.natAbs)) := by
 unfold texts_magnitude.f strconv_FormatInt_72.f
 rw [if_pos ⟨h.1, h.2, rfl⟩]
 simp only [Option.bind_some]
 unfold strings_TrimPrefix.f
 simp only [Option.bind_some]
 congr 1
 show B (Lib.trimPrefix (Lib.itoa n) [45]) = _
 congr 1
 unfold Lib.trimPrefix Lib.hasPrefix Lib.itoa
 by_cases hn : n < 0
 ·rw [if_pos hn]; simp
 ·rw [if_neg hn]
  have hd := dd_range n.toNat
  have hne := dd_ne n.toNat
  rw [show n.natAbs = n.toNat by omega]
  cases hl : Lib.decDigits n.toNat with
  | nil => exact absurd hl hne
  | cons c r =>
   have hc := hd c (by rw [hl]; exact List.mem_cons_self ..)
   have : ([45] : List UInt8).isPrefixOf (c :: r) = false := by
    simp [List.isPrefixOf]; intro e; rw [← e] at hc; exact absurd hc.1 (by decide)
   rw [this]; simp
structure Fine (l : List UInt8) : Prop where
 ne : l ≠ []
 star : ∀ c ∈ l, c ≠ 42
 head : ∀ c r, l = c :: r → c ≠ 32
def Good (w : Int) (l : List UInt8) : Prop := (l = List.replicate (max w.natAbs 1) 42) ∨ (l = [42]) ∨ (l ≠ [] ∧ (∀ c ∈ l, c ≠ 42) ∧ (w = 0 → ∀ c r, l = c :: r → c ≠ 32) ∧ (w ≠ 0 → l.length = w.natAbs))
theorem filled_is {w : Int} (h0 : -1000 ≤ w) (h1 : w ≤ 1000) {l : List UInt8} (hl : Fine l) (hs : l.length ≤ 1000000) :
  (∃ u, texts_filled.f (B l) w = some (B u, true) ∧ Good w u) ∨ (texts_filled.f (B l) w = some (B [], false) ∧ w ≠ 0) := by
 unfold texts_filled.f
 by_cases hw : w = 0
 ·rw [if_pos hw]
  exact .inl ⟨l, rfl, .inr (.inr ⟨hl.ne, hl.star, fun _ => hl.head, fun h => absurd hw h⟩)⟩
 ·rw [if_neg hw, B_size, t64 (n := -w) (by omega) (by omega)]
  have hm : mx w (-w) = (w.natAbs : Int) := by unfold mx; split <;> omega
  rw [hm]
  by_cases hg : (l.length : Int) > (w.natAbs : Int)
  ·rw [if_pos hg]; exact .inr ⟨rfl, hw⟩
  ·rw [if_neg hg, t64 (by omega) (by omega), repeat_is 32 (by omega) (by omega)]
   simp only [Option.bind_some]
   rw [B_size, List.length_replicate, if_pos (by omega), B_app]
   refine .inl ⟨_, rfl, .inr (.inr ⟨?_, ?_, fun h => absurd h hw, fun _ => ?_⟩)⟩
   ·intro h; exact hl.ne (List.append_eq_nil_iff.1 h).2
   ·intro c hc
    rcases List.mem_append.1 hc with hc | hc
    ·rw [List.mem_replicate] at hc; rw [hc.2]; decide
    ·exact hl.star c hc
   ·rw [List.length_append, List.length_replicate]; omega
theorem sign_is (neg : Bool) (w : Int) : ∃ l, texts_sign.f neg w = some (B l) ∧ l.length ≤ 1 ∧ ∀ c ∈ l, c ≠ 42 ∧ c ≠ 32 := by
 unfold texts_sign.f
 split
 ·exact ⟨[45], rfl, by simp, by simp⟩
 ·split
  ·exact ⟨[43], rfl, by simp, by simp⟩
  ·exact ⟨[], rfl, by simp, by simp⟩
theorem fine_app {l r : List UInt8} (hl : ∀ c ∈ l, c ≠ 42 ∧ c ≠ 32) (hr : Fine r) : Fine (l ++ r) := by
 refine ⟨fun h => hr.ne (List.append_eq_nil_iff.1 h).2, fun c hc => ?_, fun c t e => ?_⟩
 ·rcases List.mem_append.1 hc with hc | hc
  ·exact (hl c hc).1
  ·exact hr.star c hc
 ·cases l with
  | nil => exact hr.head c t e
  | cons d l' =>
   rw [List.cons_append, List.cons.injEq] at e
   rw [← e.1]; exact (hl d (List.mem_cons_self ..)).2
theorem fine_digits {l : List UInt8} (hn : l ≠ []) (h : ∀ c ∈ l, 46 ≤ c.toNat ∧ c.toNat ≤ 57) : Fine l := by
 have hx : ∀ c : UInt8, 46 ≤ c.toNat → c ≠ 42 ∧ c ≠ 32 := fun c hc => ⟨by rintro rfl; exact absurd hc (by decide), by rintro rfl; exact absurd hc (by decide)⟩
 exact ⟨hn, fun c hc => (hx c (h c hc).1).1, fun c r e => (hx c (h c (by rw [e]; exact List.mem_cons_self ..)).1).2⟩
theorem stars_good {w : Int} (h0 : -1000 ≤ w) (h1 : w ≤ 1000) : ∃ u, texts_stars.f w = some (B u) ∧ Good w u := ⟨_, stars_is h0 h1, .inl rfl⟩
theorem wide_no {w : Int} (h0 : -1000 ≤ w) (h1 : w ≤ 1000) : texts_wide.f w = some false := by
 unfold texts_wide.f; rw [if_neg (by omega), decide_eq_false (by omega)]
theorem wide_yes {w : Int} (h : ¬ (-1000 ≤ w ∧ w ≤ 1000)) : texts_wide.f w = some true := by
 unfold texts_wide.f
 by_cases h1 : w > 1000
 ·rw [if_pos h1]
 ·rw [if_neg h1, decide_eq_true (by omega)]
theorem good_len {w : Int} {u : List UInt8} (h0 : -1000 ≤ w) (h1 : w ≤ 1000) (h : Good w u) (hw : w ≠ 0) : u.length ≤ 1000 := by
 rcases h with rfl | rfl | h
 ·rw [List.length_replicate]; omega
 ·simp
 ·have := h.2.2.2 hw; omega
theorem whole_good {n w : Int} (hn : I64t n) : ∃ u, texts_Whole.f n w = some (B u) ∧ Good w u ∧ u.length ≤ 1000 := by
 unfold texts_Whole.f
 by_cases hw : -1000 ≤ w ∧ w ≤ 1000
 ·rw [wide_no hw.1 hw.2]
  obtain ⟨sg, hsg, hl1, hsc⟩ := sign_is (decide (n < 0)) w
  have hd := dd_range n.natAbs
  have hf : Fine (sg ++ Lib.decDigits n.natAbs) := fine_app hsc (fine_digits (dd_ne _) (fun c hc => ⟨by have := (hd c hc).1; omega, (hd c hc).2⟩))
  have hlen := dd_len n.natAbs 18 (by unfold I64t at hn; omega)
  have hlen2 : (sg ++ Lib.decDigits n.natAbs).length ≤ 20 := by rw [List.length_append]; omega
  simp only [Option.bind_some, Bool.false_eq_true, if_false, hsg, magnitude_is hn, B_size]
  rw [if_pos (by omega), B_app]
  rcases filled_is hw.1 hw.2 hf (by omega) with ⟨u, hu, hg⟩ | ⟨hu, hz⟩
  ·rw [hu]; simp only [Option.bind_some, if_true]
   refine ⟨u, rfl, hg, ?_⟩
   by_cases h0 : w = 0
   ·subst h0
    have : texts_filled.f (B (sg ++ Lib.decDigits n.natAbs)) 0 = some (B (sg ++ Lib.decDigits n.natAbs), true) := by unfold texts_filled.f; rw [if_pos rfl]
    rw [this] at hu
    simp only [Option.some.injEq, Prod.mk.injEq, and_true] at hu
    rw [← B_inj hu]; omega
   ·exact good_len hw.1 hw.2 hg h0
  ·rw [hu]; simp only [Option.bind_some, Bool.false_eq_true, if_false]
   obtain ⟨u, h1, h2⟩ := stars_good hw.1 hw.2
   rw [h1]; exact ⟨u, rfl, h2, good_len hw.1 hw.2 h2 hz⟩
 ·rw [wide_yes hw]
  simp only [Option.bind_some, if_true]
  rw [stars_is (w := 0) (by decide) (by decide)]
  exact ⟨[42], rfl, .inr (.inl rfl), by simp⟩
theorem B_extract (l : List UInt8) (i j : Nat) : (B l).extract i j = B ((l.drop i).take (j - i)) := by
 apply ByteArray.ext
 rw [ByteArray.data_extract]
 show l.toArray.extract i j = ((l.drop i).take (j - i)).toArray
 rw [List.extract_toArray]
theorem B_bt {l : List UInt8} {c : UInt8} {r : List UInt8} (h : l = c :: r) : bt (B l) 0 = (c.toNat : Int) := by
 subst h
 have := bt_at (B (c :: r)) 0 (by rw [B_size]; simp)
 rw [← this]; rfl
def Digs (l : List UInt8) : Prop := ∀ c ∈ l, 48 ≤ c.toNat ∧ c.toNat ≤ 57
theorem Digs.take {l : List UInt8} (h : Digs l) (n : Nat) : Digs (l.take n) := fun c hc => h c (List.mem_of_mem_take hc)
theorem more_some : ∀ {l : List UInt8}, Digs l → ∃ c ∈ moreR l, c ≠ 48
 | [], _ => ⟨49, by rw [moreR]; exact List.mem_singleton.2 rfl, by decide⟩
 | d :: r, h => by
  have hd := h d (List.mem_cons_self ..)
  rw [moreR]
  split
  ·refine ⟨d + 1, List.mem_cons_self .., fun e => ?_⟩
   have := congrArg UInt8.toNat e
   rw [UInt8.toNat_add] at this; simp at this; omega
  ·obtain ⟨c, hc, hn⟩ := more_some (l := r) (fun c hc => h c (List.mem_cons_of_mem _ hc))
   exact ⟨c, List.mem_cons_of_mem _ hc, hn⟩
theorem more_len : ∀ l : List UInt8, (moreR l).length ≤ l.length + 1
 | [] => by simp [moreR]
 | d :: r => by
  rw [moreR]; split
  ·simp
  ·have := more_len r; simp; omega
theorem moreS_some {l : List UInt8} (h : Digs l) : ∃ c ∈ moreS l, c ≠ 48 := by
 unfold moreS
 obtain ⟨c, hc, hn⟩ := more_some (l := l.reverse) (fun d hd => h d (List.mem_reverse.1 hd))
 exact ⟨c, List.mem_reverse.2 hc, hn⟩
theorem moreS_len (l : List UInt8) : (moreS l).length ≤ l.length + 1 := by
 unfold moreS; rw [List.length_reverse]; have := more_len l.reverse; rw [List.length_reverse] at this; exact this
theorem dw_all : ∀ l : List UInt8, l.dropWhile (([48] : List UInt8).contains ·) = [] → ∀ c ∈ l, c = 48
 | [], _, c, hc => by cases hc
 | d :: r, h, c, hc => by
  rw [List.dropWhile_cons] at h
  by_cases hd : ([48] : List UInt8).contains d = true
  ·rw [if_pos hd] at h
   rcases List.mem_cons.1 hc with rfl | hc
   ·simpa using hd
   ·exact dw_all r h c hc
  ·rw [if_neg hd] at h; cases h
theorem dw_ne {l : List UInt8} (h : ∃ c ∈ l, c ≠ 48) : l.dropWhile (([48] : List UInt8).contains ·) ≠ [] := by
 obtain ⟨c, hc, hn⟩ := h
 intro h0
 exact hn (dw_all l h0 c hc)
theorem dw_len (l : List UInt8) (p : UInt8 → Bool) : (l.dropWhile p).length ≤ l.length := (List.dropWhile_sublist p).length_le
theorem tl_is {l : List UInt8} (h : l.length ≤ 1000000) : strings_TrimLeft.f (B l) (⟨#[48]⟩ : ByteArray) = some (B (l.dropWhile (([48] : List UInt8).contains ·))) := by
 unfold strings_TrimLeft.f
 rw [if_pos ⟨by decide, by rw [B_size]; omega⟩]; rfl
theorem more_is {l : List UInt8} (h : l.length ≤ 1000000) : texts_more.f (B l) = some (B (moreS l)) := by
 unfold texts_more.f; rw [if_pos (by rw [B_size]; omega)]; rfl
def scaledL (m : Int) (k : Int) : List UInt8 :=
 let D := Lib.decDigits m.natAbs
 if 0 ≤ k then (D ++ List.replicate k.toNat 48).dropWhile (([48] : List UInt8).contains ·)
 else if (D.length : Int) < -k then []
 else if 53 ≤ ((D.drop (D.length - (-k).toNat)).headD 0).toNat then (moreS (48 :: D.take (D.length - (-k).toNat))).dropWhile (([48] : List UInt8).contains ·)
 else (D.take (D.length - (-k).toNat)).dropWhile (([48] : List UInt8).contains ·)
theorem sc_is {m e a : Int} (hm : I64t m) (hk0 : -100000 ≤ e + a) (hk1 : e + a ≤ 100000) : texts_scaled.f m e a = some (B (scaledL m (e + a))) := by
 unfold texts_scaled.f scaledL
 rw [magnitude_is hm]
 have hlen := dd_len m.natAbs 18 (by unfold I64t at hm; omega)
 have hlen0 : 1 ≤ (Lib.decDigits m.natAbs).length := List.length_pos_iff.2 (dd_ne _)
 have hkw := t64 (n := e + a) (by omega) (by omega)
 generalize e + a = k at *
 simp only [Option.bind_some, hkw]
 generalize Lib.decDigits m.natAbs = D at *
 by_cases h0 : 0 ≤ k
 ·rw [if_pos (show k ≥ 0 from h0), if_pos h0, repeat_is 48 h0 (by omega)]
  simp only [Option.bind_some]
  rw [B_size, B_size, List.length_replicate, if_pos (by omega), B_app, tl_is (by rw [List.length_append, List.length_replicate]; omega)]
  rfl
 ·rw [if_neg (show ¬ k ≥ 0 from h0), if_neg h0]
  have hn : wrap64 (-k) = -k := t64 (by omega) (by omega)
  rw [hn, B_size]
  by_cases hd : (D.length : Int) < -k
  ·rw [if_pos (show -k > (D.length : Int) from hd), if_pos hd]; rfl
  ·rw [if_neg (show ¬ -k > (D.length : Int) from hd), if_neg hd]
   have hw : wrap64 ((D.length : Int) - -k) = ((D.length - (-k).toNat : Nat) : Int) := by rw [t64 (by omega) (by omega)]; omega
   rw [hw]
   have hp : D.length - (-k).toNat < D.length := by omega
   generalize D.length - (-k).toNat = p at *
   rw [if_pos (by omega), if_pos (by omega), Int.toNat_natCast]
   simp only [B_extract, List.drop_zero, Nat.sub_zero]
   have hdl : (D.drop p).take (D.length - p) = D.drop p := List.take_of_length_le (by rw [List.length_drop]; exact Nat.le_refl _)
   rw [hdl]
   obtain ⟨c, r, hcr⟩ : ∃ c r, D.drop p = c :: r := by
    cases hx : D.drop p with
    | nil => have := congrArg List.length hx; rw [List.length_drop] at this; simp at this; omega
    | cons c r => exact ⟨c, r, rfl⟩
   rw [B_size, B_size, B_bt hcr]
   have hl : (0 : Int) < ((D.drop p).length : Int) := by rw [List.length_drop]; omega
   rw [if_pos hl]
   have hhd : (D.drop p).headD 0 = c := by rw [hcr]; rfl
   rw [hhd]
   have htl : (D.take p).length ≤ 20 := by rw [List.length_take]; omega
   by_cases h53 : 53 ≤ c.toNat
   ·rw [if_pos (show (c.toNat : Int) ≥ 53 by omega), if_pos h53, if_pos (by omega)]
    have e1 : (⟨#[48]⟩ : ByteArray) ++ B (D.take p) = B (48 :: D.take p) := B_app [48] (D.take p)
    rw [e1, more_is (by simp; omega)]
    simp only [Option.bind_some]
    rw [tl_is (by have := moreS_len (48 :: D.take p); simp at this; omega)]; rfl
   ·rw [if_neg (show ¬ (c.toNat : Int) ≥ 53 by omega), if_neg h53, tl_is (by omega)]; rfl
theorem scaledL_len {m k : Int} (hm : I64t m) (hk : k ≤ 100000) : (scaledL m k).length ≤ 100100 := by
 have hlen := dd_len m.natAbs 18 (by unfold I64t at hm; omega)
 unfold scaledL
 dsimp only
 split
 ·have := dw_len (Lib.decDigits m.natAbs ++ List.replicate k.toNat 48) (([48] : List UInt8).contains ·)
  rw [List.length_append, List.length_replicate] at this; omega
 ·split
  ·simp
  ·split
   ·have h1 := dw_len (moreS (48 :: (Lib.decDigits m.natAbs).take ((Lib.decDigits m.natAbs).length - (-k).toNat))) (([48] : List UInt8).contains ·)
    have h2 := moreS_len (48 :: (Lib.decDigits m.natAbs).take ((Lib.decDigits m.natAbs).length - (-k).toNat))
    rw [List.length_cons, List.length_take] at h2; omega
   ·have h1 := dw_len ((Lib.decDigits m.natAbs).take ((Lib.decDigits m.natAbs).length - (-k).toNat)) (([48] : List UInt8).contains ·)
    rw [List.length_take] at h1; omega
theorem scaledL_ne {m k : Int} (h0 : m.natAbs ≠ 0) (hk : -((Lib.decDigits m.natAbs).length : Int) < k) : scaledL m k ≠ [] := by
 obtain ⟨c, r, hcr, hc⟩ := dd_head h0
 have h48 : c ≠ 48 := by rintro rfl; exact absurd hc (by decide)
 have hd : Digs (Lib.decDigits m.natAbs) := dd_range _
 unfold scaledL
 dsimp only
 split
 ·exact dw_ne ⟨c, List.mem_append_left _ (by rw [hcr]; exact List.mem_cons_self ..), h48⟩
 ·split
  ·omega
  ·have hp : ∃ q, (Lib.decDigits m.natAbs).length - (-k).toNat = q + 1 := ⟨(Lib.decDigits m.natAbs).length - (-k).toNat - 1, by omega⟩
   obtain ⟨q, hq⟩ := hp
   rw [hq]
   split
   ·exact dw_ne (moreS_some (fun d hd2 => by
     rcases List.mem_cons.1 hd2 with rfl | hd2
     ·decide
     ·exact (hd.take _) d hd2))
   ·exact dw_ne ⟨c, by rw [hcr, List.take_succ_cons]; exact List.mem_cons_self .., h48⟩
theorem hl_small {n : Nat} (h : n < 18446744073709551616) : hiw n = 0 ∧ low n = (n : Int) := by
 unfold hiw low; omega
theorem mag_is {m : Int} (h : I64t m) : reals_magnitude.f m = some (hiw m.natAbs, low m.natAbs) := by
 have hs := hl_small (n := m.natAbs) (by unfold I64t at h; omega)
 rw [hs.1, hs.2]
 unfold reals_magnitude.f
 unfold I64t at h
 simp only [IntKind.wrap_u64]
 split
 ·congr 2; omega
 ·congr 2; omega
def padL (S : List UInt8) (a : Nat) : List UInt8 := if S.length ≤ a then List.replicate (a + 1 - S.length) 48 ++ S else S
theorem padL_len (S : List UInt8) (a : Nat) : a + 1 ≤ (padL S a).length ∧ (padL S a).length ≤ max (a + 1) S.length := by
 unfold padL; split
 ·rw [List.length_append, List.length_replicate]; omega
 ·omega
def pointL (T : List UInt8) (a : Nat) : List UInt8 := if a = 0 then T else T.take (T.length - a) ++ 46 :: T.drop (T.length - a)
theorem pointL_len {T : List UInt8} {a : Nat} (h : a + 1 ≤ T.length) : (pointL T a).length = if a = 0 then T.length else T.length + 1 := by
 unfold pointL; split
 ·rfl
 ·rw [List.length_append, List.length_cons, List.length_take, List.length_drop]; omega
theorem point_end {T : List UInt8} {a : Nat} (h : a + 1 ≤ T.length) (h1 : T.length ≤ 200000) :
  (if ((a : Nat) : Int) = 0 then some (B T) else (if 0 ≤ (wrap64 (((B T).size : Int) - (a : Int))) then (if (wrap64 (((B T).size : Int) - (a : Int))) ≤ ((B T).size : Int) then (if ((B T).extract 0 ((wrap64 (((B T).size : Int) - (a : Int))) : Int).toNat).size + 1 ≤ 9223372036854775807 then (if (((B T).extract 0 ((wrap64 (((B T).size : Int) - (a : Int))) : Int).toNat) ++ (⟨#[46]⟩ : ByteArray)).size + ((B T).extract ((wrap64 (((B T).size : Int) - (a : Int))) : Int).toNat (B T).size).size ≤ 9223372036854775807 then (some ((((B T).extract 0 ((wrap64 (((B T).size : Int) - (a : Int))) : Int).toNat) ++ (⟨#[46]⟩ : ByteArray)) ++ ((B T).extract ((wrap64 (((B T).size : Int) - (a : Int))) : Int).toNat (B T).size))) else (none)) else (none)) else (none)) else (none))) = some (B (pointL T a)) := by
 unfold pointL
 by_cases h0 : a = 0
 ·rw [if_pos (by omega), if_pos h0]
 ·rw [if_neg (by omega), if_neg h0, B_size]
  have hw : wrap64 ((T.length : Int) - (a : Int)) = ((T.length - a : Nat) : Int) := by rw [t64 (by omega) (by omega)]; omega
  rw [hw]
  have hp : T.length - a ≤ T.length := by omega
  generalize T.length - a = p at *
  rw [if_pos (by omega), if_pos (by omega), Int.toNat_natCast]
  simp only [B_extract, List.drop_zero, Nat.sub_zero]
  have hdl : (T.drop p).take (T.length - p) = T.drop p := List.take_of_length_le (by rw [List.length_drop]; exact Nat.le_refl _)
  have e46 : (⟨#[46]⟩ : ByteArray) = B [46] := rfl
  rw [hdl, e46, B_app, B_size, B_size, B_size, if_pos (by rw [List.length_take]; omega), if_pos (by rw [List.length_append, List.length_take, List.length_drop, List.length_singleton]; omega), B_app]
  rw [List.append_assoc]; rfl
theorem pointed_is {m e : Int} {a : Nat} (hm : I64t m) (hk0 : -100000 ≤ e + a) (hk1 : e + a ≤ 100000) (ha : a ≤ 1000) : texts_pointed.f m e a = some (B (pointL (padL (scaledL m (e + a)) a) a)) := by
 have hS := scaledL_len hm hk1
 have hL := padL_len (scaledL m (e + a)) a
 unfold texts_pointed.f
 rw [sc_is hm hk0 hk1]
 simp only [Option.bind_some]
 generalize scaledL m (e + a) = S at *
 have hpe := point_end (T := padL S a) (a := a) hL.1 (by omega)
 unfold padL at hpe ⊢
 by_cases h : S.length ≤ a
 ·rw [if_pos h] at hpe ⊢
  have hB : (B S).size = S.length := B_size S
  rw [if_pos (by rw [hB]; omega), hB, t64 (n := (a : Int) + 1) (by omega) (by omega), t64 (by omega) (by omega), repeat_is 48 (by omega) (by omega)]
  simp only [Option.bind_some]
  have hn : ((a : Int) + 1 - (S.length : Int)).toNat = a + 1 - S.length := by omega
  rw [hn, B_app, B_size, List.length_replicate, if_pos (by omega)]
  exact hpe
 ·rw [if_neg h] at hpe ⊢
  rw [if_neg (by rw [B_size]; omega)]
  exact hpe
def fillL (w : Int) (l : List UInt8) : List UInt8 := if w = 0 then l else if l.length ≤ w.natAbs then List.replicate (w.natAbs - l.length) 32 ++ l else List.replicate w.natAbs 42
theorem filled_ex {w : Int} (h0 : -1000 ≤ w) (h1 : w ≤ 1000) {l : List UInt8} (hl : l.length ≤ 1000000) :
  texts_filled.f (B l) w = if w = 0 ∨ l.length ≤ w.natAbs then some (B (fillL w l), true) else some (B [], false) := by
 unfold texts_filled.f fillL
 by_cases hw : w = 0
 ·rw [if_pos hw, if_pos (.inl hw), if_pos hw]
 ·rw [if_neg hw, if_neg hw, B_size, t64 (n := -w) (by omega) (by omega)]
  have hm : mx w (-w) = (w.natAbs : Int) := by unfold mx; split <;> omega
  rw [hm]
  by_cases hg : l.length ≤ w.natAbs
  ·rw [if_neg (by omega), if_pos (.inr hg), if_pos hg, t64 (by omega) (by omega), repeat_is 32 (by omega) (by omega)]
   simp only [Option.bind_some]
   have hn : ((w.natAbs : Int) - (l.length : Int)).toNat = w.natAbs - l.length := by omega
   rw [hn, B_size, List.length_replicate, if_pos (by omega), B_app]
  ·rw [if_pos (by omega), if_neg (by rintro (h | h) <;> omega)]; rfl
def lowD (u : Nat) : List Int := if u = 0 then [] else ((Lib.decDigits u).map fun c => (c.toNat : Int) - 48).reverse
theorem lowD_step {u : Nat} (h : u ≠ 0) : lowD u = ((u % 10 : Nat) : Int) :: lowD (u / 10) := by
 unfold lowD
 rw [if_neg h]
 rw [Lib.decDigits]
 by_cases h9 : u < 10
 ·rw [dif_pos h9, if_pos (by omega)]
  have : ((UInt8.ofNat (48 + u)).toNat : Int) - 48 = ((u % 10 : Nat) : Int) := by
   rw [UInt8.toNat_ofNat', Nat.mod_eq_of_lt (by omega)]; omega
  simpa using this
 ·rw [dif_neg h9, if_neg (by omega), List.map_append, List.reverse_append]
  have : ((UInt8.ofNat (48 + u % 10)).toNat : Int) - 48 = ((u % 10 : Nat) : Int) := by
   rw [UInt8.toNat_ofNat', Nat.mod_eq_of_lt (by omega)]; omega
  simpa using this
theorem of_loop : ∀ (j k : Nat) (x : Int) (acc : List Int), I64t x → x.natAbs < 10 ^ j → j ≤ 20 → j + 1 ≤ k → acc.length + j ≤ 40 → environref02_Of.l0 k x acc = some (acc ++ lowD x.natAbs) := by
 intro j
 induction j with
 | zero =>
  intro k x acc hx hj _ hk _
  obtain ⟨k, rfl⟩ : ∃ q, k = q + 1 := ⟨k - 1, by omega⟩
  simp only [environref02_Of.l0]
  have : x = 0 := by rw [Nat.pow_zero] at hj; omega
  rw [if_pos this]; subst this; unfold lowD; simp
 | succ j ih =>
  intro k x acc hx hj hj2 hk ha
  obtain ⟨k, rfl⟩ : ∃ q, k = q + 1 := ⟨k - 1, by omega⟩
  simp only [environref02_Of.l0]
  unfold I64t at hx
  by_cases h0 : x = 0
  ·rw [if_pos h0]; subst h0; unfold lowD; simp
  ·rw [if_neg h0]
   have hdiv : wrap64 (Int.tdiv x 10) = Int.tdiv x 10 ∧ (Int.tdiv x 10).natAbs = x.natAbs / 10 ∧ I64t (Int.tdiv x 10) := by
    have h1 : (Int.tdiv x 10).natAbs = x.natAbs / 10 := by rw [Int.natAbs_tdiv]; rfl
    exact ⟨t64 (by omega) (by omega), h1, by unfold I64t; omega⟩
   have hmod : (Int.tmod x 10).natAbs = x.natAbs % 10 := by rw [Int.natAbs_tmod]; rfl
   have hrec := fun a : Int => ih k (Int.tdiv x 10) (acc ++ [a]) hdiv.2.2 (by rw [hdiv.2.1]; rw [Nat.pow_succ] at hj; omega) (by omega) (by omega) (by rw [List.length_append, List.length_singleton]; omega)
   have hst := lowD_step (u := x.natAbs) (by omega)
   rw [hst, hdiv.1]
   by_cases hm : Int.tmod x 10 < 0
   ·have : wrap64 (-(Int.tmod x 10)) = ((x.natAbs % 10 : Nat) : Int) := by rw [t64 (by omega) (by omega)]; omega
    rw [if_pos hm, if_pos (by omega), this, hrec, hdiv.2.1, List.append_assoc]; rfl
   ·have : Int.tmod x 10 = ((x.natAbs % 10 : Nat) : Int) := by omega
    rw [if_neg hm, if_pos (by omega), this, hrec, hdiv.2.1, List.append_assoc]; rfl
theorem of_is {x : Int} (hx : I64t x) (k : Nat) (hk : 21 ≤ k) : environref02_Of.f k x = some (lowD x.natAbs) := by
 unfold environref02_Of.f
 rw [of_loop 20 k x [] hx (by unfold I64t at hx; omega) (by decide) hk (by decide)]; rfl
def txtD (l : List Int) : List UInt8 := (l.reverse).map fun d => UInt8.ofNat (48 + d.toNat)
theorem txt_low {u : Nat} (h : u ≠ 0) : txtD (lowD u) = Lib.decDigits u := by
 unfold txtD lowD
 rw [if_neg h, List.reverse_reverse, List.map_map]
 have := dd_range u
 generalize Lib.decDigits u = l at *
 induction l with
 | nil => rfl
 | cons c r ih =>
  rw [List.map_cons, ih (fun d hd => this d (List.mem_cons_of_mem _ hd))]
  have hc := this c (List.mem_cons_self ..)
  congr 1
  show UInt8.ofNat (48 + ((c.toNat : Int) - 48).toNat) = c
  rw [show 48 + ((c.toNat : Int) - 48).toNat = c.toNat by omega, UInt8.ofNat_toNat]
theorem txtD_len (l : List Int) : (txtD l).length = l.length := by unfold txtD; rw [List.length_map, List.length_reverse]
theorem lowD_len {u : Nat} (h : u < 10 ^ 19) : (lowD u).length ≤ 19 := by
 unfold lowD; split
 ·simp
 ·rw [List.length_reverse, List.length_map]; exact dd_len u 18 h
def wholeL (n w : Int) : List UInt8 := if -1000 ≤ w ∧ w ≤ 1000 then fillL w ((if n < 0 then [45] else if 0 < w then [43] else []) ++ Lib.decDigits n.natAbs) else [42]
def sgL (b : Bool) (w : Int) : List UInt8 := if b = true then [45] else if 0 < w then [43] else []
theorem sign_ex (b : Bool) (w : Int) : texts_sign.f b w = some (B (sgL b w)) := by
 unfold texts_sign.f sgL; split
 ·rfl
 ·split <;> rfl
theorem sgL_len (b : Bool) (w : Int) : (sgL b w).length ≤ 1 := by unfold sgL; split <;> (try split) <;> simp
theorem pwhole_is {n : Int} (w : Int) (hn : I64t n) : texts_Whole.f n w = some (B (wholeL n w)) := by
 unfold texts_Whole.f wholeL
 by_cases hw : -1000 ≤ w ∧ w ≤ 1000
 ·rw [wide_no hw.1 hw.2, if_pos hw]
  simp only [Option.bind_some]
  rw [if_neg (by simp), sign_ex, magnitude_is hn]
  simp only [Option.bind_some]
  have hlen := dd_len n.natAbs 18 (by unfold I64t at hn; omega)
  have hs := sgL_len (decide (n < 0)) w
  have es : sgL (decide (n < 0)) w = (if n < 0 then [45] else if 0 < w then [43] else []) := by unfold sgL; simp
  rw [es] at hs ⊢
  generalize (if n < 0 then ([45] : List UInt8) else if 0 < w then [43] else []) = sg at *
  rw [B_size, B_size, if_pos (by omega), B_app, filled_ex hw.1 hw.2 (by rw [List.length_append]; omega)]
  by_cases hf : w = 0 ∨ (sg ++ Lib.decDigits n.natAbs).length ≤ w.natAbs
  ·rw [if_pos hf]; simp
  ·rw [if_neg hf]
   simp only [Option.bind_some]
   rw [if_neg (by simp), stars_is hw.1 hw.2]
   unfold fillL
   have h0 : w ≠ 0 := fun h => hf (.inl h)
   rw [if_neg h0, if_neg (fun h => hf (.inr h)), show max w.natAbs 1 = w.natAbs by omega]; rfl
 ·rw [wide_yes hw, if_neg hw]
  simp only [Option.bind_some]
  rw [if_pos trivial, stars_is (by decide) (by decide)]; rfl
theorem lowD_zero : lowD 0 = [] := rfl
theorem dw_zero (l : List UInt8) : ((48 : UInt8) :: l).dropWhile (([48] : List UInt8).contains ·) = l.dropWhile (([48] : List UInt8).contains ·) := by
 rw [List.dropWhile_cons, if_pos (by decide)]
theorem scaledL_zero (k : Int) : scaledL 0 k = [] := by
 have h48 : ∀ n : Nat, (List.replicate n (48 : UInt8)).dropWhile (([48] : List UInt8).contains ·) = [] := by
  intro n
  induction n with
  | zero => rfl
  | succ n ih => rw [List.replicate_succ, dw_zero]; exact ih
 have hd : Lib.decDigits (0 : Int).natAbs = [48] := by rw [show (0 : Int).natAbs = 0 from rfl, Lib.decDigits]; rfl
 unfold scaledL
 dsimp only
 rw [hd]
 by_cases h0 : 0 ≤ k
 ·rw [if_pos h0]; exact h48 (k.toNat + 1)
 ·rw [if_neg h0]
  by_cases h1 : (([48] : List UInt8).length : Int) < -k
  ·rw [if_pos h1]
  ·rw [if_neg h1]
   have : (-k).toNat = 1 := by simp at h1; omega
   rw [this]; rfl
def fixL (w : Int) (sg : List UInt8) (m e : Int) : Nat → List UInt8
 | 0 => List.replicate w.natAbs 42
 | n + 1 =>
  let p := pointL (padL (scaledL m (e + n)) n) n
  let q := if w ≠ 0 ∧ (sg ++ p).length = w.natAbs + 1 ∧ ([48, 46] : List UInt8).isPrefixOf p = true then p.drop 1 else p
  if w = 0 ∨ (sg ++ q).length ≤ w.natAbs then fillL w (sg ++ q) else fixL w sg m e n
theorem pfix_loop {w m e : Int} (h0 : -1000 ≤ w) (h1 : w ≤ 1000) (hm : I64t m) (he0 : -400 ≤ e) (he1 : e ≤ 418) {sg : List UInt8} (hsl : sg.length ≤ 1) :
  ∀ (n k : Nat), n ≤ 501 → 2 * n + 1 ≤ k → (w ≠ 0 ∨ n ≠ 0) → texts_Fixed.l0 k w ((n : Int) - 1) (B sg) m e = some (B (fixL w sg m e n)) := by
 intro n
 induction n with
 | zero =>
  intro k _ hk hw
  obtain ⟨k, rfl⟩ : ∃ j, k = j + 1 := ⟨k - 1, by omega⟩
  have hw : w ≠ 0 := by exact hw.elim id (fun h => absurd rfl h)
  simp only [texts_Fixed.l0]
  rw [if_neg (by omega), stars_is h0 h1, show max w.natAbs 1 = w.natAbs by omega]; rfl
 | succ n ih =>
  intro k hn hk _
  obtain ⟨k, rfl⟩ : ∃ j, k = j + 1 + 1 := ⟨k - 2, by omega⟩
  have han : ((n + 1 : Nat) : Int) - 1 = (n : Int) := by omega
  have hS := scaledL_len hm (k := e + n) (by omega)
  have hp := pointed_is (m := m) (e := e) (a := n) hm (by omega) (by omega) (by omega)
  rw [han, fixL]
  generalize scaledL m (e + n) = S at *
  have hTl := padL_len S n
  generalize padL S n = T at *
  have hl := pointL_len hTl.1
  generalize pointL T n = p at *
  have hpl : 1 ≤ p.length ∧ p.length ≤ 200000 := by rw [hl]; split <;> omega
  have hwn : wrap64 ((n : Int) - 1) = (n : Int) - 1 := t64 (by omega) (by omega)
  have fin : ∀ q : List UInt8, q.length ≤ 200000 → ((texts_filled.f (B (sg ++ q)) w).bind fun bt164 => (if bt164.2 = true then (some bt164.1) else (texts_Fixed.l0 k w (wrap64 ((n : Int) - 1)) (B sg) m e))) = some (B (if w = 0 ∨ (sg ++ q).length ≤ w.natAbs then fillL w (sg ++ q) else fixL w sg m e n)) := by
   intro q hq
   rw [filled_ex h0 h1 (by rw [List.length_append]; omega)]
   by_cases hf : w = 0 ∨ (sg ++ q).length ≤ w.natAbs
   ·rw [if_pos hf, if_pos hf]; simp
   ·rw [if_neg hf, if_neg hf]
    simp only [Option.bind_some]
    rw [if_neg (by simp), hwn]
    exact ih k (by omega) (by omega) (.inl (fun h => hf (.inl h)))
  have hx : (B p).extract 1 p.length = B (p.drop 1) := by
   rw [B_extract, List.take_of_length_le (by rw [List.length_drop]; exact Nat.le_refl _)]
  have J : ∀ (b : Bool) (q : List UInt8), q = (if b = true then p.drop 1 else p) → texts_Fixed.j2 (k + 1) w n (B sg) (B p) b m e = some (B (if w = 0 ∨ (sg ++ q).length ≤ w.natAbs then fillL w (sg ++ q) else fixL w sg m e n)) := by
   intro b q hq
   simp only [texts_Fixed.j2]
   cases b with
   | true =>
    obtain rfl : q = p.drop 1 := hq
    rw [if_pos rfl, B_size, if_pos (by omega), hx, B_size, B_size, List.length_drop, if_pos (by omega), B_app]
    exact fin (p.drop 1) (by rw [List.length_drop]; omega)
   | false =>
    obtain rfl : q = p := hq
    rw [if_neg (by simp), B_size, B_size, if_pos (by omega), B_app]
    exact fin q hpl.2
  simp only [texts_Fixed.l0]
  rw [if_pos (by omega), hp]
  simp only [Option.bind_some]
  by_cases hw : w = 0
  ·have hn0 : ¬ (w ≠ 0 ∧ (sg ++ p).length = w.natAbs + 1 ∧ ([48, 46] : List UInt8).isPrefixOf p = true) := fun h => h.1 hw
   rw [if_pos hw]; exact J false _ (if_neg hn0)
  ·have hm1 : wrap64 ((mx w (wrap64 (-w))) + 1) = (w.natAbs : Int) + 1 := by
    rw [t64 (n := -w) (by omega) (by omega)]
    have : mx w (-w) = (w.natAbs : Int) := by unfold mx; split <;> omega
    rw [this, t64 (by omega) (by omega)]
   rw [if_neg hw, B_size, B_size, if_pos (by omega), B_app, B_size, hm1]
   by_cases hs : (sg ++ p).length = w.natAbs + 1
   ·rw [if_pos (by omega)]
    unfold strings_HasPrefix.f
    simp only [Option.bind_some]
    have hpre : Lib.hasPrefix (B p).data.toList (⟨#[48, 46]⟩ : ByteArray).data.toList = ([48, 46] : List UInt8).isPrefixOf p := rfl
    rw [hpre]
    refine J _ _ ?_
    by_cases hb : ([48, 46] : List UInt8).isPrefixOf p = true
    ·rw [if_pos hb, if_pos ⟨hw, hs, hb⟩]
    ·rw [if_neg hb, if_neg (fun h => hb h.2.2)]
   ·rw [if_neg (by omega)]; exact J false _ (if_neg (fun h => hs h.2.1))
def cutL (w : Int) (sg p : List UInt8) : List UInt8 := if w ≠ 0 ∧ (sg ++ p).length = w.natAbs + 1 ∧ ([48, 46] : List UInt8).isPrefixOf p = true then p.drop 1 else p
theorem fixL_succ (w : Int) (sg : List UInt8) (m e : Int) (n : Nat) : fixL w sg m e (n + 1) = (if w = 0 ∨ (sg ++ cutL w sg (pointL (padL (scaledL m (e + n)) n) n)).length ≤ w.natAbs then fillL w (sg ++ cutL w sg (pointL (padL (scaledL m (e + n)) n) n)) else fixL w sg m e n) := rfl
def okP (p : Nat) (m e : Int) : Bool := if m = 0 then decide (e = 0) else decide (m.natAbs % 10 ≠ 0 ∧ dg m.natAbs ≤ p ∧ -400 ≤ e ∧ e + dg m.natAbs ≤ p + 400)
theorem okP_more {p q : Nat} (h : p ≤ q) {m e : Int} (ho : okP p m e = true) : okP q m e = true := by
 unfold okP at ho ⊢
 split at ho
 ·rename_i h0; rw [if_pos h0]; exact ho
 ·rename_i h0
  rw [if_neg h0]
  have := of_decide_eq_true ho
  exact decide_eq_true ⟨this.1, by omega, by omega, by omega⟩
theorem okP_bd {p : Nat} (hp : p ≤ 18) {m e : Int} (h : okP p m e = true) : -400 ≤ e ∧ e ≤ 418 := by
 unfold okP at h
 split at h
 ·have := of_decide_eq_true h; omega
 ·have := of_decide_eq_true h; omega
theorem dg_low (u : Nat) : dg u = (lowD u).length := by
 induction u using Nat.strongRecOn with
 | ind u ih =>
  by_cases h : u = 0
  ·subst h; rw [lowD_zero]; exact dg_zero
  ·rw [lowD_step h, dg_pos h, List.length_cons, ih (u / 10) (by omega)]
theorem tmod_ten (m : Int) : (Int.tmod m 10 = 0) ↔ m.natAbs % 10 = 0 := by
 have h : (Int.tmod m 10).natAbs = m.natAbs % 10 := Int.natAbs_tmod m 10
 omega
theorem pdig_is {m : Int} (h : I64t m) : reals_wide_digits.f (hiw m.natAbs) (low m.natAbs) = some ((dg m.natAbs : Nat) : Int) := by
 unfold reals_wide_digits.f
 have hn : m.natAbs < 340282366920938463463374607431768211456 := by unfold I64t at h; omega
 rw [if_pos (hl_u hn), wv_hl]
theorem pv_j0 (k : Nat) (h l p e : Int) (d : Nat) (m : Int) (hm : reals_magnitude.f m = some (h, l)) (hd : reals_wide_digits.f h l = some (d : Int)) : reals_Valid.j0 (k + 1) p false m e = some (decide ((wrap64 (d + (mx (wrap64 (e - 400)) 0))) ≤ p)) := by
 simp only [reals_Valid.j0]; rw [if_neg (by simp), hm]; simp only [Option.bind_some]; rw [hd]; simp only [Option.bind_some]
theorem pv_end {p d : Nat} {e m : Int} (hp : p ≤ 18) (hd : d ≤ 19) (h1 : ¬ m.natAbs % 10 = 0) (h2 : ¬ e < -400) (h3 : ¬ e > 400 + p) :
  decide ((wrap64 ((d : Int) + (mx (wrap64 (e - 400)) 0))) ≤ (p : Int)) = decide (m.natAbs % 10 ≠ 0 ∧ d ≤ p ∧ -400 ≤ e ∧ e + d ≤ p + 400) := by
 rw [t64 (n := e - 400) (by omega) (by omega), t64 (by unfold mx; split <;> omega) (by unfold mx; split <;> omega), decide_eq_decide]
 unfold mx; constructor
 ·intro h; split at h <;> exact ⟨h1, by omega, by omega, by omega⟩
 ·rintro ⟨a, b, c, d⟩; split <;> omega
theorem pv_is {s m e : Int} {p : Nat} (hd : reals_Digits.f s = some ((p : Int), 0)) (hp : p ≤ 18) (hm : I64t m) (k : Nat) : reals_Valid.f (k + 1) s m e = some (okP p m e) := by
 unfold reals_Valid.f okP
 rw [hd]
 simp only [Option.bind_some]
 rw [if_pos trivial]
 by_cases hz : m = 0
 ·rw [if_pos hz, if_pos hz]; rfl
 ·rw [if_neg hz, if_neg hz]
  have bad : reals_Valid.j0 (k + 1) p true m e = some false := by
   simp only [reals_Valid.j0]; rw [if_pos trivial]
  have hlow := lowD_len (u := m.natAbs) (by unfold I64t at hm; omega)
  rw [← dg_low] at hlow
  by_cases h1 : m.natAbs % 10 = 0
  ·rw [if_pos ((tmod_ten m).2 h1), bad, decide_eq_false (fun h => h.1 h1)]
  ·rw [if_neg (fun h => h1 ((tmod_ten m).1 h))]
   by_cases h2 : e < -400
   ·rw [if_pos h2, bad, decide_eq_false (fun h => by have := h.2.2.1; omega)]
   ·rw [if_neg h2, t64 (by omega) (by omega)]
    by_cases h3 : e > 400 + (p : Int)
    ·rw [decide_eq_true h3, bad, decide_eq_false (fun h => by have := h.2.2.2; omega)]
    ·rw [decide_eq_false h3, pv_j0 k _ _ p e _ m (mag_is hm) (pdig_is hm), pv_end hp hlow h1 h2 h3]
theorem pvalid_all {m e : Int} (hm : I64t m) (k : Nat) : texts_valid.f (k + 1) m e = some (okP 18 m e) := by
 unfold texts_valid.f
 rw [pv_is (s := 1) (p := 18) rfl (by decide) hm k, pv_is (s := 0) (p := 15) rfl (by decide) hm k, pv_is (s := -1) (p := 7) rfl (by decide) hm k]
 simp only [Option.bind_some]
 by_cases h1 : okP 18 m e = true
 ·rw [if_pos h1, h1]
 ·rw [if_neg h1, if_neg (fun h => h1 (okP_more (by decide) h))]
  have h3 : okP 7 m e ≠ true := fun h => h1 (okP_more (by decide) h)
  rw [Bool.eq_false_iff.2 h1, Bool.eq_false_iff.2 h3]
def fixedL (m e w a : Int) : List UInt8 := if (-1000 ≤ w ∧ w ≤ 1000) ∧ 0 ≤ a ∧ a ≤ 500 ∧ okP 18 m e = true then fixL w (sgL (decide (m < 0)) w) m e (a.toNat + 1) else [42]
theorem pfixed_is {m e w a : Int} (k : Nat) (hk : 1100 ≤ k) (hm : I64t m) : texts_Fixed.f k m e w a = some (B (fixedL m e w a)) := by
 obtain ⟨k, rfl⟩ : ∃ j, k = j + 1 := ⟨k - 1, by omega⟩
 have bad : ¬ ((-1000 ≤ w ∧ w ≤ 1000) ∧ 0 ≤ a ∧ a ≤ 500 ∧ okP 18 m e = true) → texts_Fixed.j0 (k + 1) w a true m e = some (B (fixedL m e w a)) := by
  intro h
  unfold fixedL
  rw [if_neg h]
  simp only [texts_Fixed.j0]
  rw [if_pos trivial, stars_is (by decide) (by decide)]; rfl
 unfold texts_Fixed.f
 by_cases h1 : a < 0
 ·rw [if_pos h1]; exact bad (fun h => by omega)
 ·rw [if_neg h1]
  by_cases h2 : a > 500
  ·rw [if_pos h2]; exact bad (fun h => by omega)
  ·rw [if_neg h2]
   by_cases hw : -1000 ≤ w ∧ w ≤ 1000
   ·rw [wide_no hw.1 hw.2]
    simp only [Option.bind_some]
    rw [if_neg (by simp), pvalid_all hm k]
    simp only [Option.bind_some]
    by_cases hb : okP 18 m e = true
    ·have hbd := okP_bd (by decide) hb
     have hs := sign_ex (decide (m < 0)) w
     have hsl := sgL_len (decide (m < 0)) w
     rw [hb]
     simp only [texts_Fixed.j0]
     rw [if_neg (by simp), hs]
     simp only [Option.bind_some]
     have := pfix_loop hw.1 hw.2 hm hbd.1 hbd.2 hsl (a.toNat + 1) k (by omega) (by omega) (.inr (by omega))
     rw [show ((a.toNat + 1 : Nat) : Int) - 1 = a by omega] at this
     rw [this]
     unfold fixedL
     rw [if_pos ⟨hw, by omega, by omega, hb⟩]
    ·rw [Bool.eq_false_iff.2 hb]; exact bad (fun h => hb h.2.2.2)
   ·rw [wide_yes hw]
    simp only [Option.bind_some]
    rw [if_pos trivial]; exact bad (fun h => hw h.1)
theorem ib_mem (l : List UInt8) (c : UInt8) : 0 ≤ Lib.indexByte l c ↔ c ∈ l := by
 induction l with
 | nil => simp [Lib.indexByte]
 | cons b l ih =>
  have hg := Lib.indexByte_ge l c
  rw [Lib.indexByte]
  by_cases hb : b = c
  ·subst hb; simp
  ·rw [if_neg (by simpa using hb)]
   rw [List.mem_cons, ← ih]
   have hb' : ¬ c = b := fun h => hb h.symm
   by_cases h1 : Lib.indexByte l c = -1
   ·rw [if_pos (by rw [h1]; rfl), h1]; simp [hb']
   ·rw [if_neg (by simpa using h1)]; simp only [hb', false_or]; omega
theorem contains_is (l : List UInt8) : strings_Contains.f (B l) (⟨#[42]⟩ : ByteArray) = some (decide ((42 : UInt8) ∈ l)) := by
 unfold strings_Contains.f
 rw [if_pos (show (⟨#[42]⟩ : ByteArray).size = 1 from rfl)]
 have : (decide (0 ≤ Lib.indexByte (B l).data.toList ((⟨#[42]⟩ : ByteArray).data.toList.headD 0))) = decide ((42 : UInt8) ∈ l) := by
  rw [decide_eq_decide, B_list]; exact ib_mem l 42
 rw [this]
theorem whole_len {n : Int} (w : Int) (hn : I64t n) : (wholeL n w).length ≤ 1000 := by
 obtain ⟨u, hu, _, hl⟩ := whole_good (w := w) hn
 rw [pwhole_is w hn] at hu
 have e : wholeL n w = u := B_inj (Option.some.inj hu)
 rw [e]; exact hl
def float2 (w x e : Int) (l : List UInt8) : List UInt8 := if (42 : UInt8) ∈ wholeL e x then List.replicate (max w.natAbs 1) 42 else fillL w (l ++ [101] ++ wholeL e x)
theorem pfloat_j2 {w x e : Int} (k : Nat) (h0 : -1000 ≤ w) (h1 : w ≤ 1000) (he : I64t e) {l : List UInt8} (hs : l.length ≤ 200000) :
  texts_Float.j2 (k + 1) w x e (B l) = some (B (float2 w x e l)) := by
 have hpl := whole_len x he
 have e101 : (⟨#[101]⟩ : ByteArray) = B [101] := rfl
 simp only [texts_Float.j2]
 rw [pwhole_is x he]
 unfold float2
 generalize wholeL e x = pw at *
 simp only [Option.bind_some]
 have hlen : (l ++ [101] ++ pw).length ≤ 1000000 := by rw [List.length_append, List.length_append, List.length_singleton]; omega
 rw [B_size, if_pos (by omega), e101, B_app, B_size, B_size, if_pos (by rw [List.length_append, List.length_singleton]; omega), B_app, contains_is, filled_ex h0 h1 hlen]
 have hst := stars_is h0 h1
 by_cases hc : (42 : UInt8) ∈ pw
 ·rw [decide_eq_true hc, if_pos hc]
  by_cases hf : w = 0 ∨ (l ++ [101] ++ pw).length ≤ w.natAbs
  ·rw [if_pos hf]; simp only [Option.bind_some]; rw [if_pos trivial, if_pos trivial, hst]; rfl
  ·rw [if_neg hf]; simp only [Option.bind_some]; rw [if_neg (by simp), hst]; rfl
 ·rw [decide_eq_false hc, if_neg hc]
  by_cases hf : w = 0 ∨ (l ++ [101] ++ pw).length ≤ w.natAbs
  ·rw [if_pos hf]; simp only [Option.bind_some]; rw [if_pos trivial, if_neg (by simp)]
  ·rw [if_neg hf]; simp only [Option.bind_some]; rw [if_neg (by simp), hst]
   have hw : w ≠ 0 := fun h => hf (.inl h)
   unfold fillL
   rw [if_neg hw, if_neg (fun h => hf (.inr h)), show max w.natAbs 1 = w.natAbs by omega]; rfl
def float1 (a : Int) (S : List UInt8) : List UInt8 := if a > 0 then S.take 1 ++ 46 :: S.drop 1 else S.take 1
theorem pfloat_j1 {w x e a m E : Int} (k : Nat) (h0 : -1000 ≤ w) (h1 : w ≤ 1000) (he : I64t e) {S : List UInt8} (hn : 1 ≤ S.length) (hs : S.length ≤ 100100) :
  texts_Float.j1 (k + 2) w a x (B S) e m E = some (B (float2 w x e (sgL (decide (m < 0)) w ++ float1 a S))) := by
 have hsl := sgL_len (decide (m < 0)) w
 simp only [texts_Float.j1]
 rw [sign_ex]
 simp only [Option.bind_some]
 generalize sgL (decide (m < 0)) w = sg at *
 have e1 : (B S).extract 0 1 = B (S.take 1) := by rw [B_extract]; rfl
 have e2 : (B S).extract 1 (B S).size = B (S.drop 1) := by
  rw [B_extract, B_size]; congr 1
  exact List.take_of_length_le (by rw [List.length_drop]; exact Nat.le_refl _)
 have e46 : (⟨#[46]⟩ : ByteArray) = B [46] := rfl
 rw [e1, e2, e46]
 simp only [B_app, B_size]
 have ht : (S.take 1).length = 1 := by rw [List.length_take]; omega
 rw [if_pos (by decide), if_pos (by omega), if_pos (by rw [ht]; omega)]
 unfold float1
 by_cases ha : a > 0
 ·rw [if_pos ha, if_pos ha, if_pos (by rw [List.length_drop]; omega), if_pos (by simp; omega)]
  have : sg ++ S.take 1 ++ ([46] ++ S.drop 1) = sg ++ (S.take 1 ++ 46 :: S.drop 1) := by simp
  rw [this]
  exact pfloat_j2 k h0 h1 he (by rw [List.length_append, List.length_append, List.length_cons, List.length_drop, ht]; omega)
 ·rw [if_neg ha, if_neg ha]
  exact pfloat_j2 k h0 h1 he (by rw [List.length_append, ht]; omega)
def fdig (m e a : Int) : List UInt8 × Int :=
 if m = 0 then (List.replicate (a + 1).toNat 48, 0)
 else
  let n : Int := (Lib.decDigits m.natAbs).length
  let S := scaledL m (1 - n + a)
  if (S.length : Int) > a + 1 then (S.take (a + 1).toNat, e + n) else (S, e + n - 1)
def floatL (m e w a x : Int) : List UInt8 := if (-1000 ≤ w ∧ w ≤ 1000) ∧ (-1000 ≤ x ∧ x ≤ 1000) ∧ 0 ≤ a ∧ a ≤ 500 ∧ okP 18 m e = true then float2 w x (fdig m e a).2 (sgL (decide (m < 0)) w ++ float1 a (fdig m e a).1) else [42]
theorem pfloat_is {m e w a x : Int} (k : Nat) (hk : 10 ≤ k) (hm : I64t m) : texts_Float.f k m e w a x = some (B (floatL m e w a x)) := by
 obtain ⟨k, rfl⟩ : ∃ j, k = j + 3 := ⟨k - 3, by omega⟩
 have bad : ¬ ((-1000 ≤ w ∧ w ≤ 1000) ∧ (-1000 ≤ x ∧ x ≤ 1000) ∧ 0 ≤ a ∧ a ≤ 500 ∧ okP 18 m e = true) → texts_Float.j0 (k + 3) w a x true m e = some (B (floatL m e w a x)) := by
  intro h
  unfold floatL
  rw [if_neg h]
  simp only [texts_Float.j0]
  rw [if_pos trivial, stars_is (by decide) (by decide)]; rfl
 unfold texts_Float.f
 by_cases h1 : a < 0
 ·rw [if_pos h1]; exact bad (fun h => by omega)
 rw [if_neg h1]
 by_cases h2 : a > 500
 ·rw [if_pos h2]; exact bad (fun h => by omega)
 rw [if_neg h2]
 by_cases hw : -1000 ≤ w ∧ w ≤ 1000
 rotate_left
 ·rw [wide_yes hw]; simp only [Option.bind_some]; rw [if_pos trivial]; exact bad (fun h => hw h.1)
 rw [wide_no hw.1 hw.2]
 simp only [Option.bind_some]
 rw [if_neg (by simp)]
 by_cases hx : -1000 ≤ x ∧ x ≤ 1000
 rotate_left
 ·rw [wide_yes hx]; simp only [Option.bind_some]; rw [if_pos trivial]; exact bad (fun h => hx h.2.1)
 rw [wide_no hx.1 hx.2]
 simp only [Option.bind_some]
 rw [if_neg (by simp), pvalid_all hm (k + 2)]
 simp only [Option.bind_some]
 by_cases hb : okP 18 m e = true
 rotate_left
 ·rw [Bool.eq_false_iff.2 hb]; exact bad (fun h => hb h.2.2.2.2)
 have hbd := okP_bd (by decide) hb
 unfold floatL
 rw [if_pos ⟨hw, hx, by omega, by omega, hb⟩, hb]
 unfold fdig
 simp only [texts_Float.j0]
 have ha1 : wrap64 (a + 1) = a + 1 := t64 (by omega) (by omega)
 rw [if_neg (by simp), ha1, repeat_is 48 (by omega) (by omega)]
 simp only [Option.bind_some]
 by_cases hz : m = 0
 ·rw [if_pos hz, if_pos hz]
  exact pfloat_j1 k hw.1 hw.2 (by unfold I64t; omega) (by rw [List.length_replicate]; omega) (by rw [List.length_replicate]; omega)
 ·rw [if_neg hz, if_neg hz, magnitude_is hm]
  simp only [Option.bind_some]
  have hdl := dd_len m.natAbs 18 (by unfold I64t at hm; omega)
  have hdn : 1 ≤ (Lib.decDigits m.natAbs).length := List.length_pos_iff.2 (dd_ne _)
  have hne := scaledL_ne (m := m) (k := 1 - ((Lib.decDigits m.natAbs).length : Int) + a) (by omega) (by omega)
  have hlen := scaledL_len hm (k := 1 - ((Lib.decDigits m.natAbs).length : Int) + a) (by omega)
  have hsc := sc_is (m := m) (e := 1 - ((Lib.decDigits m.natAbs).length : Int)) (a := a) hm (by omega) (by omega)
  have hp : 1 ≤ (scaledL m (1 - ((Lib.decDigits m.natAbs).length : Int) + a)).length := List.length_pos_iff.2 hne
  rw [B_size]
  generalize (Lib.decDigits m.natAbs).length = n at *
  have w1 : wrap64 (e + (n : Int)) = e + n := t64 (by omega) (by omega)
  have w2 : wrap64 (e + (n : Int) - 1) = e + n - 1 := t64 (by omega) (by omega)
  have w3 : wrap64 (e - (e + (n : Int) - 1)) = 1 - n := by rw [t64 (by omega) (by omega)]; omega
  rw [w1, w2, w3, hsc]
  simp only [Option.bind_some]
  generalize scaledL m (1 - (n : Int) + a) = S at *
  rw [B_size]
  by_cases hg : (S.length : Int) > a + 1
  ·have w4 : wrap64 (e + (n : Int) - 1 + 1) = e + n := by rw [t64 (by omega) (by omega)]; omega
   have hl : (S.take (a + 1).toNat).length = (a + 1).toNat := by rw [List.length_take]; omega
   rw [if_pos hg, if_pos hg, if_pos (by omega), if_pos (by omega), B_extract, List.drop_zero, Nat.sub_zero, w4]
   exact pfloat_j1 k hw.1 hw.2 (by unfold I64t; omega) (by omega) (by omega)
  ·rw [if_neg hg, if_neg hg]
   exact pfloat_j1 k hw.1 hw.2 (by unfold I64t; omega) hp hlen
theorem cast_p (n : Nat) : ((2 : Int) ^ n) = ((2 ^ n : Nat) : Int) := by rw [Int.natCast_pow]; rfl
theorem p60 {n : Nat} (h : n ≤ 60) : 2 ^ n ≤ 1152921504606846976 := Nat.le_trans (Nat.pow_le_pow_right (by decide) h) (by decide)
theorem shr_nat (x m : Nat) (h : m ≤ 64) : shr .i64 (x : Int) (m : Int) = ((x / 2 ^ m : Nat) : Int) := by
 unfold shr
 have e : min (m : Int).toNat IntKind.i64.bits = m := by
  rw [Int.toNat_natCast]; simp [IntKind.bits]; omega
 rw [e, cast_p]; rfl
theorem shl1n {n : Nat} (h : n ≤ 60) : shl .i64 1 (n : Int) = ((2 ^ n : Nat) : Int) := by
 unfold shl
 have e : min (n : Int).toNat IntKind.i64.bits = n := by
  rw [Int.toNat_natCast]; simp [IntKind.bits]; omega
 have hp := p60 h
 rw [e, cast_p, Int.one_mul, IntKind.wrap_i64]
 generalize 2 ^ n = p at *
 omega
theorem bit1 (n : Int) : Go.bits .and .i64 n 1 = n % 2 := by
 have e : (BitVec.ofInt 64 n &&& BitVec.ofInt 64 1).toNat = (BitVec.ofInt 64 n).toNat % 2 := by
  rw [BitVec.toNat_and]; show (BitVec.ofInt 64 n).toNat &&& 1 = _; exact Nat.and_one_is_mod _
 show IntKind.i64.wrap ((BitVec.ofInt 64 n &&& BitVec.ofInt 64 1).toNat : Int) = n % 2
 rw [e, BitVec.toNat_ofInt, IntKind.wrap_i64]
 omega
def isW (n : Nat) (w : Int) : Bool := decide (0 ≤ w ∧ w < ((2 ^ n : Nat) : Int))
def bitL (n u i : Nat) : UInt8 := if u / 2 ^ (n - 1 - i) % 2 = 1 then 84 else 70
def wordL (n u : Nat) : List UInt8 := (List.range n).map (bitL n u)
theorem phasw_is {t w : Int} {n : Nat} (hn : n ≤ 60) : ints_length_hasWord.f t n w = some (isW n w) := by
 unfold ints_length_hasWord.f isW
 rw [shl1n hn]
 by_cases h : w ≥ 0
 ·rw [if_pos h, if_pos (by omega)]; congr 1; rw [decide_eq_decide]; exact ⟨fun x => ⟨h, x⟩, fun x => x.2⟩
 ·rw [if_neg h, decide_eq_false (fun x => h x.1)]
theorem pisword_is {s t w : Int} {n : Nat} (hof : ints_of.f s = some (t, (n : Int), 0)) (hn : n ≤ 60) (k : Nat) : ints_IsWord.f (k + 2) s w = some (isW n w) := by
 unfold ints_IsWord.f ints_words.f
 rw [hof]; simp only [Option.bind_some]
 simp only [ints_words.l0, List.length_singleton]
 rw [if_pos (by decide), if_pos (by decide), if_pos (by decide)]
 have e1 : wrap64 (0 + 1) = 1 := t64 (by omega) (by omega)
 have hr : rd [w] 0 = w := rfl
 rw [e1, hr, phasw_is hn]; simp only [Option.bind_some]
 cases isW n w <;> simp
theorem pww_loop {n u : Nat} (hn : n ≤ 60) : ∀ (r i k : Nat), i + r = n → r + 1 ≤ k →
  texts_Word.l0 k (u : Int) n ((List.range i).map (fun j => ((bitL n u j).toNat : Int)) ++ List.replicate r 0) n i = some (strOfNums ((List.range n).map (fun j => ((bitL n u j).toNat : Int))), 0) := by
 intro r
 induction r with
 | zero =>
  intro i k hi hk
  obtain ⟨k, rfl⟩ : ∃ j, k = j + 1 := ⟨k - 1, by omega⟩
  obtain rfl : i = n := by omega
  simp only [texts_Word.l0]
  rw [if_neg (by omega), List.replicate_zero, List.append_nil]
 | succ r ih =>
  intro i k hi hk
  obtain ⟨k, rfl⟩ : ∃ j, k = j + 1 := ⟨k - 1, by omega⟩
  simp only [texts_Word.l0]
  have e1 : wrap64 ((wrap64 ((n : Int) - 1)) - (i : Int)) = ((n - 1 - i : Nat) : Int) := by rw [t64 (n := (n : Int) - 1) (by omega) (by omega), t64 (by omega) (by omega)]; omega
  have hA : ((List.range i).map (fun j => ((bitL n u j).toNat : Int))).length = i := by rw [List.length_map, List.length_range]
  have hb : bt (⟨#[70, 84]⟩ : ByteArray) (((u / 2 ^ (n - 1 - i) : Nat) : Int) % 2) = ((bitL n u i).toNat : Int) := by
   unfold bitL
   generalize u / 2 ^ (n - 1 - i) = q
   by_cases h : q % 2 = 1
   ·rw [if_pos h, show ((q : Int) % 2) = 1 by omega]; rfl
   ·rw [if_neg h, show ((q : Int) % 2) = 0 by omega]; rfl
  have hs : ∀ v : Int, ((List.range i).map (fun j => ((bitL n u j).toNat : Int)) ++ List.replicate (r + 1) 0).set i v = (List.range i).map (fun j => ((bitL n u j).toNat : Int)) ++ v :: List.replicate r 0 := fun v => by
   rw [List.set_append_right _ _ (by rw [hA]; exact Nat.le_refl _), hA, Nat.sub_self, List.replicate_succ, List.set_cons_zero]
  rw [e1, shr_nat u (n - 1 - i) (by omega), bit1, if_pos (by omega), if_pos (by omega), if_pos (by omega), if_pos (by omega), if_pos (by omega), if_pos (by rw [List.length_append, hA, List.length_replicate]; omega), hb, Int.toNat_natCast, hs, t64 (by omega) (by omega)]
  have := ih (i + 1) k (by omega) (by omega)
  rw [List.range_succ, List.map_append, List.append_assoc] at this
  exact this
theorem word_nums (n u : Nat) : strOfNums ((List.range n).map (fun j => ((bitL n u j).toNat : Int))) = B (wordL n u) := by
 unfold strOfNums B wordL
 rw [List.map_map]
 have : ((fun (z : Int) => UInt8.ofNat z.toNat) ∘ fun j => ((bitL n u j).toNat : Int)) = bitL n u := by
  funext j
  show UInt8.ofNat ((((bitL n u j).toNat : Int)).toNat) = _
  rw [Int.toNat_natCast, UInt8.ofNat_toNat]
 first
  | rw [this]
  | (simp only [Function.comp_def] at this ⊢; simp [UInt8.ofNat_toNat])
theorem pword_is {s t w : Int} {n : Nat} (hof : ints_of.f s = some (t, (n : Int), 0)) (hn : n ≤ 60) (k : Nat) (hk : 100 ≤ k) : texts_Word.f k s w = some (if isW n w = true then (B (wordL n w.toNat), 0) else (B [], 11)) := by
 obtain ⟨k, rfl⟩ : ∃ j, k = j + 2 := ⟨k - 2, by omega⟩
 have hW : ints_Width.f s = some ((n : Int), 0) := by unfold ints_Width.f; rw [hof]; rfl
 unfold texts_Word.f
 rw [hW, Option.bind_some, if_pos (by trivial), pisword_is hof hn k, Option.bind_some]
 by_cases h : isW n w = true
 ·rw [if_pos h, if_pos h, if_pos (by omega), if_pos (by omega), Option.bind_some]
  have hw : 0 ≤ w := (of_decide_eq_true h).1
  have := pww_loop (n := n) (u := w.toNat) hn n 0 (k + 2) (by omega) (by omega)
  rw [List.range_zero, List.map_nil, List.nil_append, word_nums, Int.toNat_of_nonneg hw] at this
  rw [List.length_replicate, Int.toNat_natCast]
  exact this
 ·rw [if_neg h, if_neg h]; rfl
theorem B_at {l : List UInt8} {i : Nat} (h : i < l.length) : bt (B l) (i : Int) = ((l[i]).toNat : Int) := by
 have := bt_at (B l) (i : Int) (by rw [B_size, Int.toNat_natCast]; exact h)
 rw [← this]; rfl
theorem u8_eq (c d : UInt8) : ((c.toNat : Int) = (d.toNat : Int)) ↔ c = d := ⟨fun h => UInt8.toNat_inj.1 (by omega), fun h => by rw [h]⟩
theorem e43 (c : UInt8) : ((c.toNat : Int) = 43) ↔ c = 43 := u8_eq c 43
theorem e46 (c : UInt8) : ((c.toNat : Int) = 46) ↔ c = 46 := u8_eq c 46
theorem e70 (c : UInt8) : ((c.toNat : Int) = 70) ↔ c = 70 := u8_eq c 70
theorem e84 (c : UInt8) : ((c.toNat : Int) = 84) ↔ c = 84 := u8_eq c 84
theorem e101 (c : UInt8) : ((c.toNat : Int) = 101) ↔ c = 101 := u8_eq c 101
def isd (c : UInt8) : Bool := decide (48 ≤ c.toNat ∧ c.toNat ≤ 57)
def nd (l : List UInt8) : Nat := (l.takeWhile isd).length
theorem nd_le (l : List UInt8) : nd l ≤ l.length := (List.takeWhile_sublist isd).length_le
theorem nd_nil : nd [] = 0 := rfl
theorem nd_cons (c : UInt8) (l : List UInt8) : nd (c :: l) = if isd c = true then nd l + 1 else 0 := by
 unfold nd; rw [List.takeWhile_cons]; split <;> rfl
theorem nd_at {l : List UInt8} {i : Nat} (h : i < l.length) : nd (l.drop i) = if isd l[i] = true then nd (l.drop (i + 1)) + 1 else 0 := by
 rw [List.drop_eq_getElem_cons h, nd_cons]
theorem tw_take (p : UInt8 → Bool) (l : List UInt8) : l.take (l.takeWhile p).length = l.takeWhile p := by
 induction l with
 | nil => rfl
 | cons c l ih => rw [List.takeWhile_cons]; split <;> simp [ih]
theorem nd_take (l : List UInt8) : l.take (nd l) = l.takeWhile isd := tw_take isd l
theorem pdig_loop {l : List UInt8} (hl : l.length ≤ 100000) : ∀ r i : Nat, i + r = l.length → Ev (fun k => texts_digits.l0 k (B l) (i : Int)) ((i + nd (l.drop i) : Nat) : Int) := by
 intro r
 induction r with
 | zero =>
  intro i hi
  refine Ev.step (f := fun _ => some (i : Int)) (fun k => ?_) ?_
  ·simp only [texts_digits.l0]; rw [if_neg (by rw [B_size]; omega)]
  ·rw [List.drop_eq_nil_of_le (by omega), nd_nil]; exact Ev.now _
 | succ r ih =>
  intro i hi
  have hi' : i < l.length := by omega
  have hb := B_at hi'
  have hn := nd_at hi'
  have ih := ih (i + 1) (by omega)
  by_cases hc : isd l[i] = true
  ·have hd := of_decide_eq_true hc
   rw [if_pos hc] at hn
   rw [show i + nd (l.drop i) = i + 1 + nd (l.drop (i + 1)) by omega]
   refine Ev.step (fun k => ?_) ih
   simp only [texts_digits.l0]
   rw [B_size, if_pos (by omega), if_pos (by omega), hb, if_pos (by omega), if_pos (by omega), t64 (by omega) (by omega)]; rfl
  ·have hd : ¬ (48 ≤ (l[i]).toNat ∧ (l[i]).toNat ≤ 57) := fun h => hc (decide_eq_true h)
   rw [if_neg hc] at hn
   rw [show i + nd (l.drop i) = i by omega]
   refine Ev.step (f := fun _ => some (i : Int)) (fun k => ?_) (Ev.now _)
   simp only [texts_digits.l0]
   rw [B_size, if_pos (by omega), if_pos (by omega), hb]
   by_cases h1 : ((l[i]).toNat : Int) ≥ 48
   ·rw [if_pos h1, if_neg (by omega)]
   ·rw [if_neg h1]
theorem pdig_ev {l : List UInt8} (hl : l.length ≤ 100000) : Ev (fun k => texts_digits.f k (B l)) ((nd l : Nat) : Int) := by
 have := pdig_loop hl l.length 0 (by omega)
 rw [List.drop_zero, Nat.zero_add] at this
 exact this
theorem ib_mem2 (l : List UInt8) (c : UInt8) : 0 ≤ Lib.indexByte l c ↔ c ∈ l := by
 induction l with
 | nil => simp [Lib.indexByte]
 | cons b l ih =>
  have hg := Lib.indexByte_ge l c
  rw [Lib.indexByte]
  by_cases hb : b = c
  ·subst hb; simp
  ·rw [if_neg (by simpa using hb)]
   rw [List.mem_cons, ← ih]
   have hb' : ¬ c = b := fun h => hb h.symm
   by_cases h1 : Lib.indexByte l c = -1
   ·rw [if_pos (by rw [h1]; rfl), h1]; simp [hb']
   ·rw [if_neg (by simpa using h1)]; simp only [hb', false_or]; omega
theorem ib_is (s : List UInt8) (c : UInt8) : ∃ t, strings_IndexByte.f (B s) (c.toNat : Int) = some t ∧ (t ≥ 0 ↔ c ∈ s) := by
 refine ⟨_, rfl, ?_⟩
 have e : ((c.toNat : Int).toNat).toUInt8 = c := by rw [Int.toNat_natCast]; exact UInt8.ofNat_toNat
 rw [e, B_list]; exact ib_mem2 s c
def blanks : List UInt8 := [9, 10, 12, 32]
def nb (l : List UInt8) : Nat := (l.takeWhile (blanks.contains ·)).length
theorem nb_at {l : List UInt8} {i : Nat} (h : i < l.length) : nb (l.drop i) = if l[i] ∈ blanks then nb (l.drop (i + 1)) + 1 else 0 := by
 rw [List.drop_eq_getElem_cons h]
 unfold nb; rw [List.takeWhile_cons]
 by_cases hm : l[i] ∈ blanks
 ·rw [if_pos hm, if_pos (by simpa using hm)]; rfl
 ·rw [if_neg hm, if_neg (by simpa using hm)]; rfl
theorem nb_nil : nb [] = 0 := rfl
def startL (signs l : List UInt8) : Int × Bool × Int := if nb l = l.length then ((nb l : Int), false, 16) else if l.getD (nb l) 0 ∈ signs then (((nb l + 1 : Nat) : Int), l.getD (nb l) 0 == 45, 0) else ((nb l : Int), false, 0)
theorem getD_at {l : List UInt8} {i : Nat} (h : i < l.length) : l.getD i 0 = l[i] := by simp [List.getD, h]
theorem b45 (c : UInt8) : ((c.toNat : Int) == 45) = (c == 45) := by
 rw [Bool.eq_iff_iff, beq_iff_eq, beq_iff_eq]; exact u8_eq c 45
theorem pstart_j1 {l signs : List UInt8} {i : Nat} (hl : l.length ≤ 100000) (hn : nb (l.drop i) = 0) (hi : i ≤ l.length) (hx : nb l = i) : Ev (fun k => texts_start.j1 k (B l) (B signs) (i : Int) false) (startL signs l) := by
 unfold startL
 rw [hx]
 by_cases h : i = l.length
 ·rw [if_pos h]
  refine Ev.step (f := fun _ => some ((i : Int), false, 16)) (fun k => ?_) (Ev.now _)
  simp only [texts_start.j1]; rw [if_pos (by rw [B_size]; omega)]
 ·have hi' : i < l.length := by omega
  have hb := B_at hi'
  obtain ⟨t, ht, ht2⟩ := ib_is signs l[i]
  rw [if_neg h, getD_at hi']
  by_cases hm : l[i] ∈ signs
  ·rw [if_pos hm]
   refine Ev.step (f := fun _ => some (((i + 1 : Nat) : Int), l[i] == 45, 0)) (fun k => ?_) (Ev.now _)
   simp only [texts_start.j1]
   rw [if_neg (by rw [B_size]; omega), if_pos (by omega), if_pos (by rw [B_size]; omega), hb, ht, Option.bind_some, if_pos (ht2.2 hm), t64 (by omega) (by omega), b45]; rfl
  ·rw [if_neg hm]
   refine Ev.step (f := fun _ => some ((i : Int), false, 0)) (fun k => ?_) (Ev.now _)
   simp only [texts_start.j1]
   rw [if_neg (by rw [B_size]; omega), if_pos (by omega), if_pos (by rw [B_size]; omega), hb, ht, Option.bind_some, if_neg (fun h => hm (ht2.1 h))]
theorem pstart_loop {l signs : List UInt8} (hl : l.length ≤ 100000) : ∀ r i : Nat, i + r = l.length → nb l = i + nb (l.drop i) → Ev (fun k => texts_start.l0 k (B l) (B signs) (i : Int) false) (startL signs l) := by
 intro r
 induction r with
 | zero =>
  intro i hi hx
  have h0 : nb (l.drop i) = 0 := by rw [List.drop_eq_nil_of_le (by omega), nb_nil]
  refine Ev.step (fun k => ?_) (pstart_j1 hl h0 (by omega) (by omega))
  simp only [texts_start.l0]; rw [if_neg (by rw [B_size]; omega)]
 | succ r ih =>
  intro i hi hx
  have hi' : i < l.length := by omega
  have hb := B_at hi'
  have hn := nb_at hi'
  have hbl : (⟨#[9, 10, 12, 32]⟩ : ByteArray) = B blanks := rfl
  obtain ⟨t, ht, ht2⟩ := ib_is blanks l[i]
  by_cases hc : l[i] ∈ blanks
  ·rw [if_pos hc] at hn
   refine Ev.step (fun k => ?_) (ih (i + 1) (by omega) (by omega))
   simp only [texts_start.l0]
   rw [B_size, if_pos (by omega), if_pos (by omega), hb, hbl, ht, Option.bind_some, if_pos (ht2.2 hc), t64 (by omega) (by omega)]; rfl
  ·rw [if_neg hc] at hn
   refine Ev.step (fun k => ?_) (pstart_j1 hl hn (by omega) (by omega))
   simp only [texts_start.l0]
   rw [B_size, if_pos (by omega), if_pos (by omega), hb, hbl, ht, Option.bind_some, if_neg (fun h => hc (ht2.1 h))]
theorem pstart_ev (signs : List UInt8) {l : List UInt8} (hl : l.length ≤ 100000) : Ev (fun k => texts_start.f k (B l) (B signs)) (startL signs l) :=
 pstart_loop hl l.length 0 (by omega) (by rw [List.drop_zero, Nat.zero_add])
def signs2 : List UInt8 := [43, 45]
theorem ev_of {α β : Type} {g : Nat → Option α} {G : Nat → Option β} {a : α} {r : β} (h : Ev g a) (hG : ∀ n, g n = some a → G n = some r) : Ev G r := by
 obtain ⟨K, hK⟩ := h; exact ⟨K, fun k hk => hG k (hK k hk)⟩
theorem ev_of2 {α β γ : Type} {g : Nat → Option α} {g' : Nat → Option γ} {G : Nat → Option β} {a : α} {a' : γ} {r : β} (h : Ev g a) (h' : Ev g' a') (hG : ∀ n, g n = some a → g' n = some a' → G n = some r) : Ev G r := by
 obtain ⟨K, hK⟩ := h; obtain ⟨L, hL⟩ := h'
 exact ⟨max K L, fun k hk => hG k (hK k (by omega)) (hL k (by omega))⟩
theorem ev_of3 {α β γ δ : Type} {g : Nat → Option α} {g' : Nat → Option γ} {g'' : Nat → Option δ} {G : Nat → Option β} {a : α} {a' : γ} {a'' : δ} {r : β} (h : Ev g a) (h' : Ev g' a') (h'' : Ev g'' a'') (hG : ∀ n, g n = some a → g' n = some a' → g'' n = some a'' → G n = some r) : Ev G r := by
 obtain ⟨K, hK⟩ := h; obtain ⟨L, hL⟩ := h'; obtain ⟨M, hM⟩ := h''
 exact ⟨max K (max L M), fun k hk => hG k (hK k (by omega)) (hL k (by omega)) (hM k (by omega))⟩
theorem all_tw (l : List UInt8) : (l.takeWhile isd).all isd = true := by
 induction l with
 | nil => rfl
 | cons c l ih => rw [List.takeWhile_cons]; split <;> simp_all
theorem nd_all {D : List UInt8} (h : D.all isd = true) : nd D = D.length := by
 induction D with
 | nil => rfl
 | cons c r ih =>
  rw [List.all_cons, Bool.and_eq_true] at h
  rw [nd_cons, if_pos h.1, ih h.2, List.length_cons]
theorem dval_from (l : List UInt8) : ∀ a : Nat, l.foldl (fun n c => 10 * n + (c.toNat - 48)) a = a * 10 ^ l.length + dval l := by
 induction l with
 | nil => intro a; simp [dval]
 | cons c r ih =>
  intro a
  have e : dval (c :: r) = (c.toNat - 48) * 10 ^ r.length + dval r := by
   show List.foldl _ (10 * 0 + (c.toNat - 48)) r = _
   rw [ih]; simp
  rw [List.foldl_cons, ih, e, List.length_cons, Nat.pow_succ, Nat.add_mul, Nat.mul_comm 10 a, Nat.mul_assoc, Nat.mul_comm 10]; omega
theorem dval_cons (c : UInt8) (r : List UInt8) : dval (c :: r) = (c.toNat - 48) * 10 ^ r.length + dval r := by
 show List.foldl _ (10 * 0 + (c.toNat - 48)) r = _
 rw [dval_from]; simp
def intL (M : Int) (D : List UInt8) : Int × Int := if D = [] then (0, 9) else if (dval D : Int) ≤ M then ((dval D : Int), 0) else (0, 11)
theorem number_is {D : List UInt8} {M : Int} (h : D.all isd = true) (hl : D.length ≤ 100000) (h9 : 9 ≤ M) (hM : M ≤ 4611686018427387904) : texts_number.f (B D) 10 M = if (dval D : Int) ≤ M then some ((dval D : Int), true) else some (0, false) := by
 unfold texts_number.f
 rw [if_pos ⟨h, rfl, h9, hM, by rw [B_size]; omega⟩]; rfl
theorem pint_ev {s M : Int} {D : List UInt8} (hs : ints_Max.f s = some (M, 0)) (h9 : 9 ≤ M) (hM : M ≤ 999999999999999999) (h : D.all isd = true) (hl : D.length ≤ 100000) : Ev (fun k => texts_Int.f k s (B D)) (intL M D) := by
 unfold texts_Int.f intL
 by_cases hD : D = []
 ·rw [if_pos hD]; subst hD
  refine Ev.congr (f := fun k => texts_Int.j0 k (B []) M true) (fun k => ?_) (Ev.step (f := fun _ => some (0, 9)) (fun k => ?_) (Ev.now _))
  ·rw [hs, Option.bind_some, if_pos (by trivial), if_pos (B_toList [])]
  ·simp only [texts_Int.j0]; rw [if_pos trivial]
 ·rw [if_neg hD]
  have hne : ¬ (B D).toList = ([] : List UInt8) := by rw [B_toList]; exact hD
  have hd := pdig_ev hl
  rw [nd_all h] at hd
  refine Ev.congr (f := fun k => (texts_digits.f k (B D)).bind fun t => texts_Int.j0 k (B D) M (decide (t < (((B D).size : Nat) : Int)))) (fun k => ?_) (Ev.bind hd ?_)
  ·rw [hs, Option.bind_some, if_pos (by trivial), if_neg hne]
  refine Ev.step (f := fun _ => some (if (dval D : Int) ≤ M then ((dval D : Int), 0) else (0, 11))) (fun k => ?_) (Ev.now _)
  simp only [texts_Int.j0]
  rw [decide_eq_false (by rw [B_size]; omega), if_neg (by simp), number_is h hl h9 (by omega)]
  by_cases hv : (dval D : Int) ≤ M
  ·rw [if_pos hv, if_pos hv, Option.bind_some, if_pos rfl]
  ·rw [if_neg hv, if_neg hv, Option.bind_some, if_neg (by simp)]
theorem B_ext (l : List UInt8) (i j : Nat) : (B l).extract i j = B ((l.drop i).take (j - i)) := by
 apply ByteArray.ext
 rw [ByteArray.data_extract]
 show l.toArray.extract i j = ((l.drop i).take (j - i)).toArray
 rw [List.extract_toArray]
theorem B_from (l : List UInt8) (a : Nat) : (B l).extract a (B l).size = B (l.drop a) := by
 rw [B_ext, B_size, List.take_of_length_le (by rw [List.length_drop]; exact Nat.le_refl _)]
theorem B_part (l : List UInt8) (a n : Nat) : (B l).extract a (a + n) = B ((l.drop a).take n) := by
 rw [B_ext, Nat.add_sub_cancel_left]
def maxI (s : Int) : Int := if s = -1 then 32767 else if s = 0 then 2147483647 else 999999999999999999
def szOk (s : Int) : Prop := s = -1 ∨ s = 0 ∨ s = 1
theorem maxI_bd (s : Int) : 9 ≤ maxI s ∧ maxI s ≤ 999999999999999999 := by unfold maxI; split <;> (try split) <;> omega
theorem pmax_ok {s : Int} (h : szOk s) : ints_Max.f s = some (maxI s, 0) := by
 unfold maxI
 rcases h with rfl | rfl | rfl <;> rfl
theorem sz_no {s : Int} (h : ¬ szOk s) : ¬ s = -1 ∧ ¬ s = 0 ∧ ¬ s = 1 := ⟨fun e => h (.inl e), fun e => h (.inr (.inl e)), fun e => h (.inr (.inr e))⟩
theorem pmax_no {s : Int} (h : ¬ szOk s) : ints_Max.f s = some (0, 1) := by
 have := sz_no h
 unfold ints_Max.f ints_of.f; rw [if_neg this.1, if_neg this.2.1, if_neg this.2.2]; rfl
theorem psize_ok {s : Int} (h : szOk s) : texts_size.f s = some 0 := by unfold texts_size.f; rw [pmax_ok h]; rfl
theorem psize_no {s : Int} (h : ¬ szOk s) : texts_size.f s = some 1 := by unfold texts_size.f; rw [pmax_no h]; rfl
def readI (M : Int) (l : List UInt8) (a : Nat) (b : Bool) : Int × Int × Int :=
 let r := intL M ((l.drop a).takeWhile isd)
 (if b = true then wrap64 (-r.1) else r.1, ((a + nd (l.drop a) : Nat) : Int), r.2)
def rwL (l : List UInt8) : Nat → Nat → Int → Int × Int × Int
 | 0, a, w => (w, (a : Int), 0)
 | r + 1, a, w =>
  if a = l.length then (0, (a : Int), 9)
  else if l.getD a 0 = 84 then rwL l r (a + 1) (wrap64 (wrap64 (2 * w) + 1))
  else if l.getD a 0 = 70 then rwL l r (a + 1) (wrap64 (2 * w))
  else (0, (a : Int), 9)
theorem pword_loop {l : List UInt8} (hl : l.length ≤ 100000) (n : Nat) (hn : n ≤ 100) : ∀ (r i a : Nat) (w : Int), i + r = n → a ≤ l.length → Ev (fun k => texts_ReadWord.l0 k (B l) (a : Int) w (n : Int) (i : Int)) (rwL l r a w) := by
 intro r
 induction r with
 | zero =>
  intro i a w hi ha
  refine Ev.step (f := fun _ => some (w, (a : Int), 0)) (fun k => ?_) (Ev.now _)
  simp only [texts_ReadWord.l0]; rw [if_neg (by omega)]
 | succ r ih =>
  intro i a w hi ha
  rw [rwL]
  have bad : Ev (fun k => texts_ReadWord.j1 k (B l) (a : Int) w (n : Int) (i : Int) true) (0, (a : Int), 9) := by
   refine Ev.step (f := fun _ => some (0, (a : Int), 9)) (fun k => ?_) (Ev.now _)
   simp only [texts_ReadWord.j1]; rw [if_pos trivial]
  by_cases h : a = l.length
  ·rw [if_pos h]
   refine Ev.step (fun k => ?_) bad
   simp only [texts_ReadWord.l0]; rw [if_pos (by omega), if_pos (by rw [B_size]; omega)]
  ·have ha' : a < l.length := by omega
   have hb := B_at ha'
   have hw : wrap64 ((a : Int) + 1) = ((a + 1 : Nat) : Int) := by rw [t64 (by omega) (by omega)]; omega
   have hi1 : wrap64 ((i : Int) + 1) = ((i + 1 : Nat) : Int) := by rw [t64 (by omega) (by omega)]; omega
   rw [if_neg h, getD_at ha']
   by_cases h84 : l[a] = 84
   ·rw [if_pos h84]
    refine Ev.step (f := fun k => texts_ReadWord.j1 k (B l) (a : Int) w (n : Int) (i : Int) false) (fun k => ?_) (Ev.step (fun k => ?_) (ih (i + 1) (a + 1) (wrap64 (wrap64 (2 * w) + 1)) (by omega) (by omega)))
    ·simp only [texts_ReadWord.l0]
     rw [if_pos (by omega), if_neg (by rw [B_size]; omega), if_pos (by omega), if_pos (by rw [B_size]; omega), hb, if_pos ((e84 _).2 h84)]
    ·simp only [texts_ReadWord.j1]
     rw [if_neg (by simp), if_pos (by omega), if_pos (by rw [B_size]; omega), hb, if_pos ((e84 _).2 h84), hw, hi1, Int.mul_comm w 2]
   ·rw [if_neg h84]
    have hst : texts_ReadWord.l0 = texts_ReadWord.l0 := rfl
    by_cases h70 : l[a] = 70
    ·rw [if_pos h70]
     refine Ev.step (f := fun k => texts_ReadWord.j1 k (B l) (a : Int) w (n : Int) (i : Int) false) (fun k => ?_) (Ev.step (fun k => ?_) (ih (i + 1) (a + 1) (wrap64 (2 * w)) (by omega) (by omega)))
     ·simp only [texts_ReadWord.l0]
      have : (((l[a]).toNat : Int) != 70) = false := by rw [(e70 _).2 h70]; rfl
      rw [if_pos (by omega), if_neg (by rw [B_size]; omega), if_pos (by omega), if_pos (by rw [B_size]; omega), hb, if_neg (fun h => h84 ((e84 _).1 h)), this]
     ·simp only [texts_ReadWord.j1]
      rw [if_neg (by simp), if_pos (by omega), if_pos (by rw [B_size]; omega), hb, if_neg (fun h => h84 ((e84 _).1 h)), hw, hi1, Int.mul_comm w 2]
    ·rw [if_neg h70]
     refine Ev.step (fun k => ?_) bad
     simp only [texts_ReadWord.l0]
     have : (((l[a]).toNat : Int) != 70) = true := by rw [bne_iff_ne]; exact fun h => h70 ((e70 _).1 h)
     rw [if_pos (by omega), if_neg (by rw [B_size]; omega), if_pos (by omega), if_pos (by rw [B_size]; omega), hb, if_neg (fun h => h84 ((e84 _).1 h)), this]
def widI (s : Int) : Nat := if s = -1 then 16 else if s = 0 then 32 else 60
theorem widI_bd (s : Int) : widI s ≤ 60 := by unfold widI; split <;> (try split) <;> omega
theorem pwid_ok {s : Int} (h : szOk s) : ints_Width.f s = some ((widI s : Int), 0) := by
 unfold widI
 rcases h with rfl | rfl | rfl <;> rfl
theorem pwid_no {s : Int} (h : ¬ szOk s) : ints_Width.f s = some (0, 1) := by
 have := sz_no h
 unfold ints_Width.f ints_of.f; rw [if_neg this.1, if_neg this.2.1, if_neg this.2.2]; rfl
def signL : List UInt8 → List UInt8
 | [] => []
 | c :: _ => if c = 43 ∨ c = 45 then [c] else []
def fracL : List UInt8 → List UInt8
 | [] => []
 | c :: v => if c = 46 then v.takeWhile isd else []
def expL : List UInt8 → List UInt8
 | [] => []
 | c :: v => if c = 101 then (if (v.drop (signL v).length).takeWhile isd = [] then [] else signL v ++ (v.drop (signL v).length).takeWhile isd) else []
def dotL (f : List UInt8) : List UInt8 := if f = [] then [] else 46 :: f
def exL (x : List UInt8) : List UInt8 := if x = [] then [] else 101 :: x
def partsL (l : List UInt8) : List UInt8 × List UInt8 × List UInt8 × Nat :=
 if l.takeWhile isd ++ fracL (l.drop (nd l)) = [] then ([], [], [], 0)
 else (l.takeWhile isd, fracL (l.drop (nd l)), expL (l.drop (nd l + (dotL (fracL (l.drop (nd l)))).length)), nd l + (dotL (fracL (l.drop (nd l)))).length + (exL (expL (l.drop (nd l + (dotL (fracL (l.drop (nd l)))).length)))).length)
theorem dotL_len (f : List UInt8) : (dotL f).length = if f = [] then 0 else f.length + 1 := by unfold dotL; split <;> simp
theorem exL_len (f : List UInt8) : (exL f).length = if f = [] then 0 else f.length + 1 := by unfold exL; split <;> simp
theorem nd_zero {l : List UInt8} : nd l = 0 ↔ l.takeWhile isd = [] := by unfold nd; exact List.length_eq_zero_iff
theorem signL_at {l : List UInt8} {i : Nat} (h : i < l.length) : signL (l.drop i) = if l[i] = 43 ∨ l[i] = 45 then [l[i]] else [] := by
 rw [List.drop_eq_getElem_cons h]; rfl
theorem signL_end {l : List UInt8} {i : Nat} (h : l.length ≤ i) : signL (l.drop i) = [] := by rw [List.drop_eq_nil_of_le h]; rfl
theorem fracL_at {l : List UInt8} {i : Nat} (h : i < l.length) : fracL (l.drop i) = if l[i] = 46 then (l.drop (i + 1)).takeWhile isd else [] := by
 rw [List.drop_eq_getElem_cons h]; rfl
theorem expL_at {l : List UInt8} {i : Nat} (h : i < l.length) : expL (l.drop i) = if l[i] = 101 then (if ((l.drop (i + 1)).drop (signL (l.drop (i + 1))).length).takeWhile isd = [] then [] else signL (l.drop (i + 1)) ++ ((l.drop (i + 1)).drop (signL (l.drop (i + 1))).length).takeWhile isd) else [] := by
 rw [List.drop_eq_getElem_cons h]; rfl
theorem pparts_j3 {l : List UInt8} (hl : l.length ≤ 10000) (w f : List UInt8) {n : Nat} (hn : n < l.length) (h101 : l[n] = 101) (b : Bool) (hb : b = decide (signL (l.drop (n + 1)) ≠ [])) :
  Ev (fun k => texts_parts.j3 k (B l) (B w) (B f) (B []) (n : Int) ((n + 1 : Nat) : Int) b) (B w, B f, B (expL (l.drop n)), ((n + (exL (expL (l.drop n))).length : Nat) : Int)) := by
 rw [exL_len, expL_at hn, if_pos h101]
 have hw1 : wrap64 ((n : Int) + 1) = ((n + 1 : Nat) : Int) := by rw [t64 (by omega) (by omega)]; omega
 cases b with
 | true =>
  have hs : signL (l.drop (n + 1)) ≠ [] := of_decide_eq_true hb.symm
  have hn1 : n + 1 < l.length := by
   rcases Nat.lt_or_ge (n + 1) l.length with h | h
   ·exact h
   ·exact absurd (signL_end h) hs
  have hsg : signL (l.drop (n + 1)) = [l[n + 1]] := by
   have := signL_at hn1
   rw [this] at hs ⊢
   split
   ·rfl
   ·rename_i h; rw [if_neg h] at hs; exact absurd rfl hs
  have hdd : (l.drop (n + 1)).drop 1 = l.drop (n + 2) := by rw [List.drop_drop]
  rw [hsg, List.length_singleton, hdd]
  have hd := pdig_ev (l := l.drop (n + 2)) (by rw [List.length_drop]; omega)
  have hz := nd_zero (l := l.drop (n + 2))
  have hnl := nd_le (l.drop (n + 2))
  have htk := nd_take (l.drop (n + 2))
  have hlen : ((l.drop (n + 2)).takeWhile isd).length = nd (l.drop (n + 2)) := rfl
  rw [List.length_drop] at hnl
  generalize (l.drop (n + 2)).takeWhile isd = d at *
  generalize hdn : nd (l.drop (n + 2)) = q at *
  have hw2 : wrap64 (((n + 1 : Nat) : Int) + 1) = ((n + 2 : Nat) : Int) := by rw [t64 (by omega) (by omega)]; omega
  have hw3 : wrap64 (((n + 2 : Nat) : Int) + (q : Int)) = ((n + 1 + (1 + q) : Nat) : Int) := by rw [t64 (by omega) (by omega)]; omega
  refine Ev.step (f := fun k => (texts_digits.f k (B (l.drop (n + 2)))).bind fun t194 => (if t194 > 0 then (if 0 ≤ ((n + 1 : Nat) : Int) then (if ((n + 1 : Nat) : Int) ≤ (wrap64 (((n + 2 : Nat) : Int) + t194)) then (if (wrap64 (((n + 2 : Nat) : Int) + t194)) ≤ (((B l).size : Nat) : Int) then (some (B w, B f, (B l).extract (((n + 1 : Nat) : Int)).toNat ((wrap64 (((n + 2 : Nat) : Int) + t194)) : Int).toNat, wrap64 (((n + 2 : Nat) : Int) + t194))) else (none)) else (none)) else (none)) else (some (B w, B f, B [], (n : Int))))) (fun k => ?_) (ev_of hd (fun k e1 => ?_))
  ·simp only [texts_parts.j3]
   rw [if_pos trivial, hw2, hw1, if_pos (by omega), if_pos (by rw [B_size]; omega), Int.toNat_natCast, B_from]
  ·rw [e1, Option.bind_some]
   by_cases hq : q = 0
   ·rw [if_neg (by omega), if_pos (hz.1 hq), if_pos rfl]; rfl
   ·have hne : d ≠ [] := fun h => hq (hz.2 h)
    have hne2 : [l[n + 1]] ++ d ≠ [] := by simp
    rw [if_pos (by omega), if_pos (by omega), hw3, if_pos (by omega), if_pos (by rw [B_size]; omega), if_neg hne, if_neg hne2, Int.toNat_natCast, Int.toNat_natCast, B_part]
    have hx : (l.drop (n + 1)).take (1 + q) = [l[n + 1]] ++ d := by
     rw [List.drop_eq_getElem_cons hn1, Nat.add_comm, List.take_succ_cons, show n + 1 + 1 = n + 2 from rfl, htk]; rfl
    have hlx : ([l[n + 1]] ++ d).length = 1 + q := by rw [List.length_append, hlen]; rfl
    rw [hx, hlx]; congr 4; omega
 | false =>
  have hs : signL (l.drop (n + 1)) = [] := by
   have := of_decide_eq_false hb.symm
   exact Decidable.of_not_not this
  rw [hs, List.length_nil, List.drop_zero, List.nil_append]
  have hd := pdig_ev (l := l.drop (n + 1)) (by rw [List.length_drop]; omega)
  have hz := nd_zero (l := l.drop (n + 1))
  have hnl := nd_le (l.drop (n + 1))
  have htk := nd_take (l.drop (n + 1))
  have hlen : ((l.drop (n + 1)).takeWhile isd).length = nd (l.drop (n + 1)) := rfl
  rw [List.length_drop] at hnl
  generalize (l.drop (n + 1)).takeWhile isd = d at *
  generalize hdn : nd (l.drop (n + 1)) = q at *
  have hw3 : wrap64 (((n + 1 : Nat) : Int) + (q : Int)) = ((n + 1 + q : Nat) : Int) := by rw [t64 (by omega) (by omega)]; omega
  refine Ev.step (f := fun k => (texts_digits.f k (B (l.drop (n + 1)))).bind fun t195 => (if t195 > 0 then (if 0 ≤ ((n + 1 : Nat) : Int) then (if ((n + 1 : Nat) : Int) ≤ (wrap64 (((n + 1 : Nat) : Int) + t195)) then (if (wrap64 (((n + 1 : Nat) : Int) + t195)) ≤ (((B l).size : Nat) : Int) then (some (B w, B f, (B l).extract (((n + 1 : Nat) : Int)).toNat ((wrap64 (((n + 1 : Nat) : Int) + t195)) : Int).toNat, wrap64 (((n + 1 : Nat) : Int) + t195))) else (none)) else (none)) else (none)) else (some (B w, B f, B [], (n : Int))))) (fun k => ?_) (ev_of hd (fun k e1 => ?_))
  ·simp only [texts_parts.j3]
   rw [if_neg (by simp), hw1, if_pos (by omega), if_pos (by rw [B_size]; omega), Int.toNat_natCast, B_from]
  ·rw [e1, Option.bind_some]
   by_cases hq : q = 0
   ·rw [if_neg (by omega), if_pos (hz.1 hq), if_pos rfl]; rfl
   ·have hne : d ≠ [] := fun h => hq (hz.2 h)
    rw [if_pos (by omega), if_pos (by omega), hw3, if_pos (by omega), if_pos (by rw [B_size]; omega), if_neg hne, if_neg hne, Int.toNat_natCast, Int.toNat_natCast, B_part, htk, hlen]
    congr 4; omega
theorem pparts_j2 {l : List UInt8} (hl : l.length ≤ 10000) (w f : List UInt8) {n : Nat} (hn : n ≤ l.length) (b : Bool) (hb : b = (decide (n < l.length) && l.getD n 0 == 101)) :
  Ev (fun k => texts_parts.j2 k (B l) (B w) (B f) (B []) (n : Int) b) (B w, B f, B (expL (l.drop n)), ((n + (exL (expL (l.drop n))).length : Nat) : Int)) := by
 have hw1 : wrap64 ((n : Int) + 1) = ((n + 1 : Nat) : Int) := by rw [t64 (by omega) (by omega)]; omega
 cases b with
 | true =>
  have hb := hb.symm
  rw [Bool.and_eq_true] at hb
  have hn' : n < l.length := of_decide_eq_true hb.1
  have h101 : l[n] = 101 := by have := hb.2; rw [getD_at hn'] at this; exact eq_of_beq this
  by_cases h1 : n + 1 < l.length
  ·have hbt := B_at h1
   by_cases h43 : l[n + 1] = 43
   ·refine Ev.step (fun k => ?_) (pparts_j3 hl w f hn' h101 true (by rw [signL_at h1, if_pos (.inl h43)]; simp))
    simp only [texts_parts.j2]
    rw [if_pos trivial, hw1, if_pos (by rw [B_size]; omega), if_pos (by omega), hbt, if_pos ((e43 _).2 h43)]
   ·by_cases h45 : l[n + 1] = 45
    ·refine Ev.step (fun k => ?_) (pparts_j3 hl w f hn' h101 true (by rw [signL_at h1, if_pos (.inr h45)]; simp))
     simp only [texts_parts.j2]
     rw [if_pos trivial, hw1, if_pos (by rw [B_size]; omega), if_pos (by omega), hbt, if_neg (fun h => h43 ((e43 _).1 h)), b45, h45]; rfl
    ·refine Ev.step (fun k => ?_) (pparts_j3 hl w f hn' h101 false (by rw [signL_at h1, if_neg (by rintro (h | h); exact h43 h; exact h45 h)]; simp))
     have hx : (l[n + 1] == 45) = false := by simpa using h45
     simp only [texts_parts.j2]
     rw [if_pos trivial, hw1, if_pos (by rw [B_size]; omega), if_pos (by omega), hbt, if_neg (fun h => h43 ((e43 _).1 h)), b45, hx]
  ·refine Ev.step (fun k => ?_) (pparts_j3 hl w f hn' h101 false (by rw [signL_end (by omega)]; simp))
   simp only [texts_parts.j2]
   rw [if_pos trivial, hw1, if_neg (by rw [B_size]; omega)]
 | false =>
  have hx : expL (l.drop n) = [] := by
   by_cases hn' : n < l.length
   ·rw [expL_at hn', if_neg]
    intro h
    rw [decide_eq_true hn', getD_at hn', h] at hb; simp at hb
   ·rw [List.drop_eq_nil_of_le (by omega)]; rfl
  rw [hx]
  refine Ev.step (f := fun _ => some (B w, B f, B [], (n : Int))) (fun k => ?_) (Ev.now _)
  simp only [texts_parts.j2]
  rw [if_neg (by simp)]
theorem pparts_j1 {l : List UInt8} (hl : l.length ≤ 10000) {w f : List UInt8} (hwf : w.length + f.length ≤ 100000) {n : Nat} (hn : n ≤ l.length) :
  Ev (fun k => texts_parts.j1 k (B l) (B w) (B f) (B []) (n : Int)) (if w ++ f = [] then (B [], B [], B [], 0) else (B w, B f, B (expL (l.drop n)), ((n + (exL (expL (l.drop n))).length : Nat) : Int))) := by
 by_cases h : w ++ f = []
 ·rw [if_pos h]
  refine Ev.step (f := fun _ => some (B [], B [], B [], 0)) (fun k => ?_) (Ev.now _)
  simp only [texts_parts.j1]
  rw [if_pos (by rw [B_size, B_size]; omega), B_app, if_pos (by rw [B_toList]; exact h)]; rfl
 ·rw [if_neg h]
  by_cases hn' : n < l.length
  ·refine Ev.step (fun k => ?_) (pparts_j2 hl w f hn (l[n] == 101) (by rw [decide_eq_true hn', getD_at hn']; rfl))
   have e101 : (((l[n]).toNat : Int) == 101) = (l[n] == 101) := by rw [Bool.eq_iff_iff, beq_iff_eq, beq_iff_eq]; exact e101 _
   simp only [texts_parts.j1]
   rw [if_pos (by rw [B_size, B_size]; omega), B_app, if_neg (by rw [B_toList]; exact h), if_pos (by rw [B_size]; omega), if_pos (by omega), B_at hn', e101]
  ·refine Ev.step (fun k => ?_) (pparts_j2 hl w f hn false (by rw [decide_eq_false hn']; rfl))
   simp only [texts_parts.j1]
   rw [if_pos (by rw [B_size, B_size]; omega), B_app, if_neg (by rw [B_toList]; exact h), if_neg (by rw [B_size]; omega)]
theorem pparts_j0 {l : List UInt8} (hl : l.length ≤ 10000) {w : List UInt8} {n : Nat} (hn : n ≤ l.length) (hw : w.length = n) (b : Bool) (hb : b = (decide (n < l.length) && l.getD n 0 == 46)) :
  Ev (fun k => texts_parts.j0 k (B l) (B w) (B []) (B []) (n : Int) b) (if w ++ fracL (l.drop n) = [] then (B [], B [], B [], 0) else (B w, B (fracL (l.drop n)), B (expL (l.drop (n + (dotL (fracL (l.drop n))).length))), ((n + (dotL (fracL (l.drop n))).length + (exL (expL (l.drop (n + (dotL (fracL (l.drop n))).length)))).length : Nat) : Int))) := by
 have none : fracL (l.drop n) = [] → Ev (fun k => texts_parts.j1 k (B l) (B w) (B []) (B []) (n : Int)) (if w ++ fracL (l.drop n) = [] then (B [], B [], B [], 0) else (B w, B (fracL (l.drop n)), B (expL (l.drop (n + (dotL (fracL (l.drop n))).length))), ((n + (dotL (fracL (l.drop n))).length + (exL (expL (l.drop (n + (dotL (fracL (l.drop n))).length)))).length : Nat) : Int))) := by
  intro h
  rw [h]
  exact pparts_j1 hl (w := w) (f := []) (by simp; omega) hn
 have hw1 : wrap64 ((n : Int) + 1) = ((n + 1 : Nat) : Int) := by rw [t64 (by omega) (by omega)]; omega
 cases b with
 | true =>
  have hb := hb.symm
  rw [Bool.and_eq_true] at hb
  have hn' : n < l.length := of_decide_eq_true hb.1
  have h46 : l[n] = 46 := by have := hb.2; rw [getD_at hn'] at this; exact eq_of_beq this
  have hfr : fracL (l.drop n) = (l.drop (n + 1)).takeWhile isd := by rw [fracL_at hn', if_pos h46]
  have hd := pdig_ev (l := l.drop (n + 1)) (by rw [List.length_drop]; omega)
  have hz := nd_zero (l := l.drop (n + 1))
  have hnl := nd_le (l.drop (n + 1))
  have htk := nd_take (l.drop (n + 1))
  have hlen : ((l.drop (n + 1)).takeWhile isd).length = nd (l.drop (n + 1)) := rfl
  rw [List.length_drop] at hnl
  by_cases hq : nd (l.drop (n + 1)) = 0
  ·have := none (by rw [hfr]; exact hz.1 hq)
   refine Ev.step (f := fun k => (texts_digits.f k (B (l.drop (n + 1)))).bind fun t193 => (if t193 > 0 then (if ((n + 1 : Nat) : Int) ≤ (wrap64 (((n + 1 : Nat) : Int) + t193)) then (if (wrap64 (((n + 1 : Nat) : Int) + t193)) ≤ (((B l).size : Nat) : Int) then (texts_parts.j1 k (B l) (B w) ((B l).extract (((n + 1 : Nat) : Int)).toNat ((wrap64 (((n + 1 : Nat) : Int) + t193)) : Int).toNat) (B []) (wrap64 ((n : Int) + (wrap64 (1 + t193))))) else (Option.none)) else (Option.none)) else (texts_parts.j1 k (B l) (B w) (B []) (B []) (n : Int)))) (fun k => ?_) (ev_of2 hd this (fun k e1 e2 => ?_))
   ·simp only [texts_parts.j0]
    rw [if_pos trivial, hw1, if_pos (by omega), if_pos (by rw [B_size]; omega), Int.toNat_natCast, B_from]
   ·rw [e1, Option.bind_some, if_neg (by omega)]; exact e2
  ·have hne : (l.drop (n + 1)).takeWhile isd ≠ [] := fun h => hq (hz.2 h)
   have hj := pparts_j1 hl (w := w) (f := (l.drop (n + 1)).takeWhile isd) (by rw [hlen]; omega) (n := n + (nd (l.drop (n + 1)) + 1)) (by omega)
   have hdl : (dotL ((l.drop (n + 1)).takeWhile isd)).length = nd (l.drop (n + 1)) + 1 := by rw [dotL_len, if_neg hne]; rfl
   rw [hfr, hdl]
   have hw3 : wrap64 (((n + 1 : Nat) : Int) + ((nd (l.drop (n + 1)) : Nat) : Int)) = ((n + 1 + nd (l.drop (n + 1)) : Nat) : Int) := by rw [t64 (by omega) (by omega)]; omega
   have hw4 : wrap64 ((n : Int) + wrap64 (1 + ((nd (l.drop (n + 1)) : Nat) : Int))) = ((n + (nd (l.drop (n + 1)) + 1) : Nat) : Int) := by rw [t64 (n := 1 + ((nd (l.drop (n + 1)) : Nat) : Int)) (by omega) (by omega), t64 (by omega) (by omega)]; omega
   refine Ev.step (f := fun k => (texts_digits.f k (B (l.drop (n + 1)))).bind fun t193 => (if t193 > 0 then (if ((n + 1 : Nat) : Int) ≤ (wrap64 (((n + 1 : Nat) : Int) + t193)) then (if (wrap64 (((n + 1 : Nat) : Int) + t193)) ≤ (((B l).size : Nat) : Int) then (texts_parts.j1 k (B l) (B w) ((B l).extract (((n + 1 : Nat) : Int)).toNat ((wrap64 (((n + 1 : Nat) : Int) + t193)) : Int).toNat) (B []) (wrap64 ((n : Int) + (wrap64 (1 + t193))))) else (Option.none)) else (Option.none)) else (texts_parts.j1 k (B l) (B w) (B []) (B []) (n : Int)))) (fun k => ?_) (ev_of2 hd hj (fun k e1 e2 => ?_))
   ·simp only [texts_parts.j0]
    rw [if_pos trivial, hw1, if_pos (by omega), if_pos (by rw [B_size]; omega), Int.toNat_natCast, B_from]
   ·rw [e1, Option.bind_some, if_pos (by omega), hw3, if_pos (by omega), if_pos (by rw [B_size]; omega), Int.toNat_natCast, Int.toNat_natCast, B_part, htk, hw4]; exact e2
 | false =>
  have hx : fracL (l.drop n) = [] := by
   by_cases hn' : n < l.length
   ·rw [fracL_at hn', if_neg]
    intro h
    rw [decide_eq_true hn', getD_at hn', h] at hb; simp at hb
   ·rw [List.drop_eq_nil_of_le (by omega)]; rfl
  refine Ev.step (fun k => ?_) (none hx)
  simp only [texts_parts.j0]
  rw [if_neg (by simp)]
def partsB (p : List UInt8 × List UInt8 × List UInt8 × Nat) : ByteArray × ByteArray × ByteArray × Int := (B p.1, B p.2.1, B p.2.2.1, (p.2.2.2 : Int))
theorem pparts_ev {l : List UInt8} (hl : l.length ≤ 10000) : Ev (fun k => texts_parts.f k (B l)) (partsB (partsL l)) := by
 have hd := pdig_ev (l := l) (by omega)
 have hnl := nd_le l
 have htk : (B l).extract 0 (nd l) = B (l.takeWhile isd) := by rw [B_ext, List.drop_zero, Nat.sub_zero, nd_take]
 have hj := pparts_j0 hl (w := l.takeWhile isd) (n := nd l) hnl rfl (decide (nd l < l.length) && l.getD (nd l) 0 == 46) rfl
 have hr : (if l.takeWhile isd ++ fracL (l.drop (nd l)) = [] then (B [], B [], B [], 0) else (B (l.takeWhile isd), B (fracL (l.drop (nd l))), B (expL (l.drop (nd l + (dotL (fracL (l.drop (nd l)))).length))), ((nd l + (dotL (fracL (l.drop (nd l)))).length + (exL (expL (l.drop (nd l + (dotL (fracL (l.drop (nd l)))).length)))).length : Nat) : Int))) = partsB (partsL l) := by
  unfold partsL; split <;> rfl
 rw [hr] at hj
 refine ev_of2 hd hj (fun k e1 e2 => ?_)
 unfold texts_parts.f
 rw [e1, Option.bind_some, if_pos (by omega), if_pos (by rw [B_size]; omega), Int.toNat_natCast, htk]
 by_cases hn' : nd l < l.length
 ·have e46 : (((l[nd l]).toNat : Int) == 46) = (l[nd l] == 46) := by rw [Bool.eq_iff_iff, beq_iff_eq, beq_iff_eq]; exact e46 _
  rw [decide_eq_true hn', getD_at hn', Bool.true_and] at e2
  rw [if_pos (by rw [B_size]; omega), B_at hn', e46]; exact e2
 ·rw [decide_eq_false hn', Bool.false_and] at e2
  rw [if_neg (by rw [B_size]; omega)]; exact e2
def ExpOk (x : List UInt8) : Prop := x = [] ∨ ∃ sg d, x = sg ++ d ∧ (sg = [] ∨ sg = [43] ∨ sg = [45]) ∧ d ≠ [] ∧ d.all isd = true
theorem signL_cons (c : UInt8) (r : List UInt8) : signL (c :: r) = if c = 43 ∨ c = 45 then [c] else [] := rfl
structure Stop (u : List UInt8) : Prop where
 d : u.takeWhile isd = []
 f : fracL u = []
 e : expL u = []
theorem Stop.nil : Stop [] := ⟨rfl, rfl, rfl⟩
theorem Stop.one {c : UInt8} (h : c = 32 ∨ c = 59) (r : List UInt8) : Stop (c :: r) := by
 rcases h with rfl | rfl
 ·exact ⟨rfl, rfl, rfl⟩
 ·exact ⟨rfl, rfl, rfl⟩
theorem tw_app {D u : List UInt8} (h : D.all isd = true) (hu : u.takeWhile isd = []) : (D ++ u).takeWhile isd = D := by
 induction D with
 | nil => exact hu
 | cons c r ih =>
  rw [List.all_cons, Bool.and_eq_true] at h
  rw [List.cons_append, List.takeWhile_cons, if_pos h.1, ih h.2]
theorem sign_app {sg d u : List UInt8} (hs : sg = [] ∨ sg = [43] ∨ sg = [45]) (hd : d ≠ []) (ha : d.all isd = true) : signL (sg ++ d ++ u) = sg := by
 rcases hs with rfl | rfl | rfl
 ·cases d with
  | nil => exact absurd rfl hd
  | cons c r =>
   rw [List.all_cons, Bool.and_eq_true] at ha
   have := of_decide_eq_true ha.1
   show (if c = 43 ∨ c = 45 then [c] else []) = []
   rw [if_neg]
   rintro (rfl | rfl)
   ·exact absurd this.1 (by decide)
   ·exact absurd this.1 (by decide)
 ·rfl
 ·rfl
theorem exp_app {x u : List UInt8} (hx : ExpOk x) (hu : Stop u) : expL (exL x ++ u) = x := by
 rcases hx with rfl | ⟨sg, d, rfl, hs, hd, ha⟩
 ·exact hu.e
 ·have hne : sg ++ d ≠ [] := fun h => hd (List.append_eq_nil_iff.1 h).2
  unfold exL
  rw [if_neg hne]
  show (if (101 : UInt8) = 101 then (if ((sg ++ d ++ u).drop (signL (sg ++ d ++ u)).length).takeWhile isd = [] then [] else signL (sg ++ d ++ u) ++ ((sg ++ d ++ u).drop (signL (sg ++ d ++ u)).length).takeWhile isd) else []) = sg ++ d
  rw [if_pos rfl, sign_app hs hd ha, List.append_assoc, List.drop_left, tw_app ha hu.d, if_neg hd]
theorem ex_head (x u : List UInt8) (hu : Stop u) : (exL x ++ u).takeWhile isd = [] ∧ fracL (exL x ++ u) = [] := by
 unfold exL
 split
 ·exact ⟨hu.d, hu.f⟩
 ·exact ⟨rfl, rfl⟩
theorem frac_app {f v : List UInt8} (hf : f.all isd = true) (hv : v.takeWhile isd = []) (hv2 : fracL v = []) : fracL (dotL f ++ v) = f := by
 unfold dotL
 split
 ·rename_i h; rw [h]; exact hv2
 ·show (if (46 : UInt8) = 46 then (f ++ v).takeWhile isd else []) = f
  rw [if_pos rfl, tw_app hf hv]
theorem dot_head {f v : List UInt8} (hv : v.takeWhile isd = []) : (dotL f ++ v).takeWhile isd = [] := by
 unfold dotL
 split
 ·exact hv
 ·rfl
theorem parts_of {w f x u : List UInt8} (hw : w.all isd = true) (hf : f.all isd = true) (hne : w ++ f ≠ []) (hx : ExpOk x) (hu : Stop u) :
  partsL (w ++ (dotL f ++ (exL x ++ u))) = (w, f, x, w.length + (dotL f).length + (exL x).length) := by
 have h1 := ex_head x u hu
 have h2 : (w ++ (dotL f ++ (exL x ++ u))).takeWhile isd = w := tw_app hw (dot_head h1.1)
 have h3 : nd (w ++ (dotL f ++ (exL x ++ u))) = w.length := by unfold nd; rw [h2]
 have h4 : (w ++ (dotL f ++ (exL x ++ u))).drop w.length = dotL f ++ (exL x ++ u) := List.drop_left
 have h5 : fracL (dotL f ++ (exL x ++ u)) = f := frac_app hf h1.1 h1.2
 have h6 : (w ++ (dotL f ++ (exL x ++ u))).drop (w.length + (dotL f).length) = exL x ++ u := by rw [← List.drop_drop, h4, List.drop_left]
 unfold partsL
 rw [h2, h3, h4, h5, if_neg hne, h6, exp_app hx hu]
theorem parts_again {w f x : List UInt8} (hw : w.all isd = true) (hf : f.all isd = true) (hne : w ++ f ≠ []) (hx : ExpOk x) :
  partsL (w ++ (dotL f ++ exL x)) = (w, f, x, w.length + (dotL f).length + (exL x).length) := by
 have := parts_of hw hf hne hx Stop.nil
 rw [List.append_nil] at this
 exact this
def xneg (x : List UInt8) : Bool := decide (signL x = [45])
def xdig (x : List UInt8) : List UInt8 := x.drop (signL x).length
theorem x_parts {sg d : List UInt8} (hs : sg = [] ∨ sg = [43] ∨ sg = [45]) (hd : d ≠ []) (ha : d.all isd = true) : signL (sg ++ d) = sg ∧ xdig (sg ++ d) = d := by
 have := sign_app (u := []) hs hd ha
 rw [List.append_nil] at this
 unfold xdig
 rw [this, List.drop_left]; exact ⟨rfl, rfl⟩
theorem xdig_all {x : List UInt8} (hx : ExpOk x) : (xdig x).all isd = true := by
 rcases hx with rfl | ⟨sg, d, rfl, hs, hd, ha⟩
 ·rfl
 ·rw [(x_parts hs hd ha).2]; exact ha
def expV (M : Int) (x : List UInt8) : Int := if xneg x = true then -(if (dval (xdig x) : Int) ≤ M then (dval (xdig x) : Int) else M) else (if (dval (xdig x) : Int) ≤ M then (dval (xdig x) : Int) else M)
theorem dw2 {d : List UInt8} (ha : d.all isd = true) : d.dropWhile (([43, 45] : List UInt8).contains ·) = d := by
 cases d with
 | nil => rfl
 | cons c r =>
  rw [List.all_cons, Bool.and_eq_true] at ha
  have := of_decide_eq_true ha.1
  rw [List.dropWhile_cons, if_neg]
  intro h
  have h : c = 43 ∨ c = 45 := by simpa using h
  rcases h with rfl | rfl
  ·exact absurd this.1 (by decide)
  ·exact absurd this.1 (by decide)
theorem clamped_is {x : List UInt8} (hx : ExpOk x) (hl : x.length ≤ 10000) : texts_clamped.f (B x) = some (expV 1099511627776 x) := by
 have hp : strings_HasPrefix.f (B x) (⟨#[45]⟩ : ByteArray) = some (xneg x) := by
  unfold strings_HasPrefix.f xneg
  congr 1
  show Lib.hasPrefix x [45] = _
  unfold Lib.hasPrefix
  cases x with
  | nil => rfl
  | cons c r =>
   rw [signL_cons]
   by_cases h : c = 45
   ·subst h; simp [List.isPrefixOf]
   ·have h2 : ((45 : UInt8) == c) = false := by rw [beq_eq_false_iff_ne]; exact fun e => h e.symm
    by_cases h3 : c = 43
    ·subst h3; simp [List.isPrefixOf]
    ·rw [if_neg (by rintro (e | e); exact h3 e; exact h e)]
     simp [List.isPrefixOf, h2]
 have ht : strings_TrimLeft.f (B x) (⟨#[43, 45]⟩ : ByteArray) = some (B (xdig x)) := by
  unfold strings_TrimLeft.f
  rw [if_pos ⟨by decide, by rw [B_size]; omega⟩]
  congr 1
  show B (x.dropWhile (([43, 45] : List UInt8).contains ·)) = _
  congr 1
  rcases hx with rfl | ⟨sg, d, rfl, hs, hd, ha⟩
  ·rfl
  ·rw [(x_parts hs hd ha).2]
   rcases hs with rfl | rfl | rfl
   ·exact dw2 ha
   ·rw [List.singleton_append, List.dropWhile_cons, if_pos (by decide), dw2 ha]
   ·rw [List.singleton_append, List.dropWhile_cons, if_pos (by decide), dw2 ha]
 have hdl : (xdig x).length ≤ 10000 := by unfold xdig; rw [List.length_drop]; omega
 unfold texts_clamped.f expV
 rw [hp, Option.bind_some, ht, Option.bind_some, number_is (xdig_all hx) (by omega) (by decide) (by decide)]
 by_cases hv : (dval (xdig x) : Int) ≤ 1099511627776
 ·rw [if_pos hv, if_pos hv, Option.bind_some]
  cases xneg x
  ·rw [if_pos rfl, if_neg (by simp), if_neg (by simp)]
  ·rw [if_pos rfl, if_pos rfl, if_pos rfl, t64 (by omega) (by omega)]
 ·rw [if_neg hv, if_neg hv, Option.bind_some]
  cases xneg x <;> rfl
theorem dval_lt : ∀ {D : List UInt8}, D.all isd = true → dval D < 10 ^ D.length
 | [], _ => by decide
 | c :: r, h => by
  rw [List.all_cons, Bool.and_eq_true] at h
  have hc := of_decide_eq_true h.1
  have ih := dval_lt h.2
  have hm : (c.toNat - 48) * 10 ^ r.length ≤ 9 * 10 ^ r.length := Nat.mul_le_mul_right _ (by omega)
  rw [dval_cons, List.length_cons, Nat.pow_succ]; omega
def RR (s : Int) (neg : Bool) (n : Nat) (e : Int) : Int × Int × Int := Rr.flat (Rr.rnd (Rr.pd s) 0 neg n e false)
theorem er_ok {s : Int} (hs : szOk s) : Rr.er s = 0 := by rcases hs with rfl | rfl | rfl <;> rfl
theorem dw48_cons (c : UInt8) (r : List UInt8) : (c :: r).dropWhile (([48] : List UInt8).contains ·) = if c = 48 then r.dropWhile (([48] : List UInt8).contains ·) else c :: r := by
 rw [List.dropWhile_cons]
 by_cases h : c = 48
 ·rw [if_pos h, if_pos (by rw [h]; decide)]
 ·rw [if_neg h, if_neg (by simpa using h)]
theorem strip48 : ∀ {D : List UInt8}, D.all isd = true → ∃ Z, D.dropWhile (([48] : List UInt8).contains ·) = Z ∧ Z.all isd = true ∧ dval Z = dval D ∧ dg (dval D) = Z.length ∧ Z.length ≤ D.length
 | [], _ => ⟨[], rfl, rfl, rfl, dg_zero, Nat.le_refl _⟩
 | c :: r, h => by
  have h' := h
  rw [List.all_cons, Bool.and_eq_true] at h
  have hc := of_decide_eq_true h.1
  rw [dw48_cons]
  by_cases h48 : c = 48
  ·obtain ⟨Z, e1, e2, e3, e4, e5⟩ := strip48 h.2
   rw [if_pos h48]
   have hv : dval (c :: r) = dval r := by
    rw [dval_cons, h48, show ((48 : UInt8)).toNat - 48 = 0 from rfl, Nat.zero_mul, Nat.zero_add]
   exact ⟨Z, e1, e2, by rw [hv]; exact e3, by rw [hv]; exact e4, by rw [List.length_cons]; omega⟩
  ·rw [if_neg h48]
   have hc2 : 49 ≤ c.toNat := by
    rcases Nat.lt_or_ge 48 c.toNat with h | h
    ·exact h
    ·exact absurd (UInt8.toNat_inj.1 (by have : ((48 : UInt8)).toNat = 48 := rfl; omega)) h48
   refine ⟨c :: r, rfl, h', rfl, ?_, Nat.le_refl _⟩
   refine dg_is (dval_lt h') (.inr ?_)
   rw [dval_cons, List.length_cons, Nat.add_sub_cancel]
   have : 1 * 10 ^ r.length ≤ (c.toNat - 48) * 10 ^ r.length := Nat.mul_le_mul_right _ (by omega)
   omega
theorem dval_app (a b : List UInt8) : dval (a ++ b) = dval a * 10 ^ b.length + dval b := by
 have := dval_from b (dval a)
 rw [← this]; unfold dval; rw [List.foldl_append]
def tr48 (l : List UInt8) : List UInt8 := (l.reverse.dropWhile (([48] : List UInt8).contains ·)).reverse
theorem dw_append_all (p : UInt8 → Bool) (a b : List UInt8) : (a ++ b).dropWhile p = if a.dropWhile p = [] then b.dropWhile p else a.dropWhile p ++ b := by
 induction a with
 | nil => rfl
 | cons c r ih =>
  rw [List.cons_append, List.dropWhile_cons, List.dropWhile_cons]
  split
  ·exact ih
  ·rw [if_neg (by simp)]; rfl
theorem tr48_cons (c : UInt8) (v : List UInt8) : tr48 (c :: v) = if tr48 v = [] then (if c = 48 then [] else [c]) else c :: tr48 v := by
 unfold tr48
 rw [List.reverse_cons, dw_append_all]
 by_cases h : v.reverse.dropWhile (([48] : List UInt8).contains ·) = []
 ·rw [if_pos h, h, List.reverse_nil, if_pos rfl, dw48_cons]
  split <;> rfl
 ·rw [if_neg h, if_neg (by simpa using h), List.reverse_append]; rfl
theorem tr48_zero : ∀ {v : List UInt8}, v.all isd = true → (tr48 v = [] ↔ dval v = 0)
 | [], _ => by simp [tr48, dval]
 | c :: r, h => by
  rw [List.all_cons, Bool.and_eq_true] at h
  have hc := of_decide_eq_true h.1
  have ih := tr48_zero h.2
  have hp : 0 < 10 ^ r.length := Nat.pow_pos (by decide)
  rw [tr48_cons, dval_cons]
  by_cases hz : dval r = 0
  ·rw [if_pos (ih.2 hz), hz, Nat.add_zero]
   by_cases h48 : c = 48
   ·rw [if_pos h48, h48, show ((48 : UInt8)).toNat - 48 = 0 from rfl, Nat.zero_mul]; simp
   ·have hc2 : 1 ≤ c.toNat - 48 := by
     rcases Nat.lt_or_ge 48 c.toNat with h | h
     ·omega
     ·exact absurd (UInt8.toNat_inj.1 (by have : ((48 : UInt8)).toNat = 48 := rfl; omega)) h48
    rw [if_neg h48]
    have := Nat.mul_le_mul_right (10 ^ r.length) hc2
    constructor
    ·intro e; cases e
    ·intro e; omega
  ·rw [if_neg (fun e => hz (ih.1 e))]
   constructor
   ·intro e; cases e
   ·intro e; omega
theorem u8_lt (a b : UInt8) : (a < b) ↔ a.toNat < b.toNat := UInt8.lt_iff_toNat_lt
theorem half_cmp {R : List UInt8} (h : R.all isd = true) (hne : R ≠ []) :
  (Lib.compareBytes (tr48 R) [53] > 0 ↔ 10 ^ R.length < 2 * dval R) ∧ (Lib.compareBytes (tr48 R) [53] = 0 ↔ 10 ^ R.length = 2 * dval R) := by
 cases R with
 | nil => exact absurd rfl hne
 | cons c v =>
  rw [List.all_cons, Bool.and_eq_true] at h
  have hc := of_decide_eq_true h.1
  have hz := tr48_zero h.2
  have hlt := dval_lt h.2
  have hp : 0 < 10 ^ v.length := Nat.pow_pos (by decide)
  rw [dval_cons, List.length_cons, Nat.pow_succ, tr48_cons]
  have h53 : ((53 : UInt8)).toNat = 53 := rfl
  rcases Nat.lt_trichotomy c.toNat 53 with hlt5 | heq | hgt
  ·have hm : (c.toNat - 48) * 10 ^ v.length ≤ 4 * 10 ^ v.length := Nat.mul_le_mul_right _ (by omega)
   have hcm : c < 53 := (u8_lt _ _).2 (by omega)
   have hcmp : Lib.compareBytes (if tr48 v = [] then (if c = 48 then [] else [c]) else c :: tr48 v) [53] = -1 := by
    split
    ·split
     ·rfl
     ·simp [Lib.compareBytes, hcm]
    ·simp [Lib.compareBytes, hcm]
   rw [hcmp]
   constructor <;> constructor <;> intro h <;> omega
  ·have hc53 : c = 53 := UInt8.toNat_inj.1 (by omega)
   have hn48 : c ≠ 48 := by rw [hc53]; decide
   rw [if_neg hn48, heq, show 53 - 48 = 5 from rfl]
   subst hc53
   by_cases hv : dval v = 0
   ·rw [if_pos (hz.2 hv), hv]
    have hcmp : Lib.compareBytes [53] [53] = 0 := by simp [Lib.compareBytes]
    rw [hcmp]
    constructor <;> constructor <;> intro h <;> omega
   ·have hne2 : tr48 v ≠ [] := fun e => hv (hz.1 e)
    rw [if_neg hne2]
    have hcmp : Lib.compareBytes (53 :: tr48 v) [53] = 1 := by
     cases ht : tr48 v with
     | nil => exact absurd ht hne2
     | cons a b => simp [Lib.compareBytes]
    rw [hcmp]
    constructor <;> constructor <;> intro h <;> omega
  ·have hm : 6 * 10 ^ v.length ≤ (c.toNat - 48) * 10 ^ v.length := Nat.mul_le_mul_right _ (by omega)
   have hn48 : c ≠ 48 := by rintro rfl; exact absurd hgt (by decide)
   have hcm : ¬ c < 53 := fun h => by have := (u8_lt _ _).1 h; omega
   have hcm2 : 53 < c := (u8_lt _ _).2 (by omega)
   have hcmp : Lib.compareBytes (if tr48 v = [] then (if c = 48 then [] else [c]) else c :: tr48 v) [53] = 1 := by
    rw [if_neg hn48]
    split <;> simp [Lib.compareBytes, hcm, hcm2]
   rw [hcmp]
   constructor <;> constructor <;> intro h <;> omega
theorem rnd_again {p : Nat} (hp : p ≠ 0) (hp18 : p ≤ 18) {q : Nat} (hq : q ≤ 10 ^ p) {t : Int} (ht : -400 ≤ t) : Rr.rnd p 0 false q (min (max t (-1000)) 1000) false = Rr.fin p 0 false q t := by
 have main : ∀ t : Int, -400 ≤ t → Rr.rnd p 0 false q t false = Rr.fin p 0 false q t := by
  intro t ht
  by_cases h : dg q ≤ p
  ·have hd : Rr.dropS p q t = 0 := by unfold Rr.dropS; omega
   unfold Rr.rnd
   rw [hd, show Rr.cutG q 0 false = (q, -1, false) from rfl, Rr.up_exact, Int.natCast_zero, Int.add_zero]
  ·have h1 : ¬ q < 10 ^ p := fun h' => h (Rr.dg_le_iff.2 h')
   obtain rfl : q = 10 ^ p := by omega
   have hd1 : dg (10 ^ p) = p + 1 := by have := Rr.dg_mul (n := 1) (by decide) p; rw [Nat.one_mul] at this; rw [this, Rr.dg_one]; omega
   have hd : Rr.dropS p (10 ^ p) t = 1 := by unfold Rr.dropS; rw [hd1]; omega
   have hc := Rr.cut_exact 1 p 1 (by omega)
   rw [Nat.one_mul, Nat.one_mul] at hc
   unfold Rr.rnd
   rw [hd, hc, Rr.up_exact]
   have := Rr.fin_mul p 0 false (10 ^ (p - 1)) (t + 1) 1
   rw [Nat.pow_one, ← Nat.pow_succ, show (p - 1).succ = p by omega, show t + 1 - ((1 : Nat) : Int) = t by omega] at this
   exact this.symm
 rw [main _ (by omega)]
 by_cases h : t ≤ 1000
 ·rw [show min (max t (-1000)) 1000 = t by omega]
 ·rw [show min (max t (-1000)) 1000 = 1000 by omega]
  unfold Rr.fin
  by_cases hz : q = 0
  ·rw [if_pos hz, if_pos hz]
  ·have h1 : (dg q : Int) + 1000 > p + 400 := by omega
   have h2 : (dg q : Int) + t > p + 400 := by omega
   rw [if_neg hz, if_neg hz, if_pos h1, if_pos h2]
theorem rnd_low {p n : Nat} {neg : Bool} {e : Int} (h : dg n < Rr.dropS p n e) : Rr.rnd p 0 neg n e false = ((0, 0), 0) := by
 have h10 : 10 ^ dg n * 10 ≤ 10 ^ Rr.dropS p n e := by rw [← Nat.pow_succ]; exact Nat.pow_le_pow_right (by decide) h
 have hn := dg_lt n
 have h1 : n % 10 ^ Rr.dropS p n e = n := Nat.mod_eq_of_lt (by omega)
 have h2 : n / 10 ^ Rr.dropS p n e = 0 := Nat.div_eq_of_lt (by omega)
 have hd0 : Rr.dropS p n e ≠ 0 := by omega
 have hup : Rr.up 0 neg (Rr.cutG n (Rr.dropS p n e) false) = 0 := by
  unfold Rr.cutG
  rw [if_neg hd0, h1, h2]
  have h3 : Rr.sdS n (10 ^ Rr.dropS p n e) false = -1 := by
   unfold Rr.sdS; rw [if_neg (by omega), if_pos (by omega)]
  rw [h3]; rfl
 unfold Rr.rnd
 rw [hup]; unfold Rr.fin; rw [if_pos rfl]
theorem up_num (A K R : Nat) (b : Bool) (hR : R < K) : Rr.up 0 false (A, Rr.sdS R K false, b) = A + if K < 2 * R ∨ K = 2 * R ∧ A % 2 = 1 then 1 else 0 := by
 unfold Rr.up Rr.awayS Rr.sdS
 simp only [Bool.false_eq_true, if_false, if_true]
 rcases Nat.lt_trichotomy K (2 * R) with h | h | h
 ·have hc : K < 2 * R ∨ K = 2 * R ∧ A % 2 = 1 := .inl h
  have h1 : ¬ R = K - R := by omega
  have h2 : ¬ R < K - R := by omega
  rw [if_pos hc, if_neg h1, if_neg h2]; simp
 ·have h1 : R = K - R := by omega
  rw [if_pos h1]
  by_cases ho : A % 2 = 1
  ·have hc : K < 2 * R ∨ K = 2 * R ∧ A % 2 = 1 := .inr ⟨h, ho⟩
   rw [if_pos hc]; simp [ho]
  ·have hc : ¬ (K < 2 * R ∨ K = 2 * R ∧ A % 2 = 1) := by rintro (h2 | h2) <;> omega
   rw [if_neg hc]; simp [ho]
 ·have hc : ¬ (K < 2 * R ∨ K = 2 * R ∧ A % 2 = 1) := by rintro (h2 | h2) <;> omega
  have h1 : ¬ R = K - R := by omega
  have h2 : R < K - R := by omega
  rw [if_neg hc, if_neg h1, if_pos h2]; simp
theorem mk_ev {s : Int} (hs : szOk s) {q : Nat} (hq : q ≤ 10 ^ Rr.pd s) {t : Int} (ht : -400 ≤ t) : Ev (fun k => reals_Make.f k s 0 (q : Int) t) (Rr.flat (Rr.fin (Rr.pd s) 0 false q t)) := by
 have hp := Rr.pd_of (er_ok hs)
 have h18 : 10 ^ Rr.pd s ≤ 10 ^ 18 := Nat.pow_le_pow_right (by decide) (by omega)
 have h := Rr.pmake_is s 0 (q : Int) t (by omega) (by omega)
 unfold Rr.makeS at h
 rw [if_pos ⟨er_ok hs, by decide, by decide⟩, decide_eq_false (by omega), Int.natAbs_natCast, rnd_again (by omega) (by omega) hq ht] at h
 exact h
theorem drop_low (p n : Nat) (e : Int) : -400 ≤ e + (Rr.dropS p n e : Int) := by unfold Rr.dropS; omega
theorem prounded_ev {s : Int} (hs : szOk s) {D : List UInt8} (hD : D.all isd = true) (hl : D.length ≤ 4000) {e : Int} (h0 : -2000000000000 ≤ e) (h1 : e ≤ 2000000000000) :
  Ev (fun k => texts_rounded.f k s (B D) e) (RR s false (dval D) e) := by
 have hp := Rr.pd_of (er_ok hs)
 have hpd := Rr.pdigits_is s
 rw [er_ok hs] at hpd
 obtain ⟨Z, hZ, hZa, hZv, hZd, hZl⟩ := strip48 hD
 have htl : strings_TrimLeft.f (B D) (⟨#[48]⟩ : ByteArray) = some (B Z) := by
  unfold strings_TrimLeft.f
  rw [if_pos ⟨by decide, by rw [B_size]; omega⟩]
  congr 1
  show B (D.dropWhile (([48] : List UInt8).contains ·)) = _
  rw [hZ]
 have zero : ∀ dr : Int, Ev (fun k => texts_rounded.j0 k s (B Z) e dr true) (0, 0, 0) := by
  intro dr
  refine Ev.step (f := fun _ => some (0, 0, 0)) (fun k => ?_) (Ev.now _)
  simp only [texts_rounded.j0]; rw [if_pos trivial]
 unfold RR
 have hmx : mx (mx (wrap64 ((Z.length : Int) - (Rr.pd s : Int))) (wrap64 ((-400) - e))) 0 = ((Rr.dropS (Rr.pd s) (dval D) e : Nat) : Int) := by
  rw [t64 (by omega) (by omega), t64 (by omega) (by omega)]
  unfold Rr.dropS mx
  rw [hZd]
  split <;> split <;> omega
 have hlow := drop_low (Rr.pd s) (dval D) e
 by_cases hz : Z = []
 ·have hv : dval D = 0 := by rw [← hZv, hz]; rfl
  rw [hv, Rr.rnd_zero]
  refine ev_of (zero (mx (mx (wrap64 ((Z.length : Int) - (Rr.pd s : Int))) (wrap64 ((-400) - e))) 0)) (fun k e1 => ?_)
  unfold texts_rounded.f
  rw [hpd, Option.bind_some, htl, Option.bind_some, if_pos (by rw [B_toList]; exact hz), B_size]
  exact e1
 by_cases hbig : Rr.dropS (Rr.pd s) (dval D) e > Z.length
 ·rw [rnd_low (by omega)]
  refine ev_of (zero ((Rr.dropS (Rr.pd s) (dval D) e : Nat) : Int)) (fun k e1 => ?_)
  unfold texts_rounded.f
  rw [hpd, Option.bind_some, htl, Option.bind_some, if_neg (by rw [B_toList]; exact hz), B_size]
  show texts_rounded.j0 k s (B Z) e (mx (mx (wrap64 ((Z.length : Int) - (Rr.pd s : Int))) (wrap64 ((-400) - e))) 0) (decide ((mx (mx (wrap64 ((Z.length : Int) - (Rr.pd s : Int))) (wrap64 ((-400) - e))) 0) > (Z.length : Int))) = _
  rw [hmx, decide_eq_true (by omega)]
  exact e1
 have hnb := hbig
 have hdrop : dg (dval D) - Rr.pd s ≤ Rr.dropS (Rr.pd s) (dval D) e := by unfold Rr.dropS; omega
 have hup := Rr.up_lt (Rr.pd s) 0 false (dval D) e false
 have hrnd : Rr.rnd (Rr.pd s) 0 false (dval D) e false = Rr.fin (Rr.pd s) 0 false (Rr.up 0 false (Rr.cutG (dval D) (Rr.dropS (Rr.pd s) (dval D) e) false)) (e + (Rr.dropS (Rr.pd s) (dval D) e : Int)) := rfl
 rw [hrnd]
 generalize Rr.dropS (Rr.pd s) (dval D) e = dr at *
 have hdz : dr ≤ Z.length := by omega
 have hmk := mk_ev hs hup hlow
 -- what is kept and what is dropped
 have hK := (List.take_append_drop (Z.length - dr) Z).symm
 have hKa : (Z.take (Z.length - dr)).all isd = true := List.all_eq_true.2 fun c hc => List.all_eq_true.1 hZa c (List.mem_of_mem_take hc)
 have hRa : (Z.drop (Z.length - dr)).all isd = true := List.all_eq_true.2 fun c hc => List.all_eq_true.1 hZa c (List.mem_of_mem_drop hc)
 have hKl : (Z.take (Z.length - dr)).length = Z.length - dr := by rw [List.length_take]; omega
 have hRl : (Z.drop (Z.length - dr)).length = dr := by rw [List.length_drop]; omega
 have hval : dval D = dval (Z.take (Z.length - dr)) * 10 ^ dr + dval (Z.drop (Z.length - dr)) := by
  rw [← hZv]
  conv => lhs; rw [hK]
  rw [dval_app, hRl]
 have hrlt := dval_lt hRa
 have hklt := dval_lt hKa
 rw [hRl] at hrlt
 rw [hKl] at hklt
 have hk18 : dval (Z.take (Z.length - dr)) < 10 ^ 18 := Nat.lt_of_lt_of_le hklt (Nat.pow_le_pow_right (by decide) (by omega))
 have hext1 : (B Z).extract 0 (Z.length - dr) = B (Z.take (Z.length - dr)) := by rw [B_ext, List.drop_zero, Nat.sub_zero]
 have hext2 : (B Z).extract (Z.length - dr) Z.length = B (Z.drop (Z.length - dr)) := by have := B_from Z (Z.length - dr); rw [B_size] at this; exact this
 have hnum := number_is (M := 4611686018427387904) hKa (by omega) (by decide) (by decide)
 rw [if_pos (by omega)] at hnum
 have hpos : 0 < 10 ^ dr := Nat.pow_pos (by decide)
 have hdiv : dval D / 10 ^ dr = dval (Z.take (Z.length - dr)) := by
  rw [hval, Nat.mul_comm, Nat.mul_add_div hpos, Nat.div_eq_of_lt hrlt, Nat.add_zero]
 have hmod : dval D % 10 ^ dr = dval (Z.drop (Z.length - dr)) := by
  rw [hval, Nat.mul_comm, Nat.mul_add_mod, Nat.mod_eq_of_lt hrlt]
 have hhalf := half_cmp hRa
 have hw1 : wrap64 (e + (dr : Int)) = e + dr := t64 (by omega) (by omega)
 have hw2 : wrap64 ((Z.length : Int) - (dr : Int)) = ((Z.length - dr : Nat) : Int) := by rw [t64 (by omega) (by omega)]; omega
 have hcase : Rr.up 0 false (Rr.cutG (dval D) dr false) = dval (Z.take (Z.length - dr)) + (if dr ≠ 0 ∧ (10 ^ dr < 2 * dval (Z.drop (Z.length - dr)) ∨ 10 ^ dr = 2 * dval (Z.drop (Z.length - dr)) ∧ dval (Z.take (Z.length - dr)) % 2 = 1) then 1 else 0) := by
  unfold Rr.cutG
  by_cases hd0 : dr = 0
  ·have h1 : 10 ^ dr = 1 := by rw [hd0]
   rw [if_pos hd0, Rr.up_exact, if_neg (fun h => h.1 hd0)]
   rw [h1, Nat.div_one] at hdiv
   exact hdiv
  ·rw [if_neg hd0, hdiv, hmod, up_num _ _ _ _ hrlt]
   congr 1
   simp only [ne_eq, hd0, not_false_eq_true, true_and]
 obtain ⟨I, hI1, hI0, hIe⟩ : ∃ I : Nat, ((dr ≠ 0 ∧ (10 ^ dr < 2 * dval (Z.drop (Z.length - dr)) ∨ 10 ^ dr = 2 * dval (Z.drop (Z.length - dr)) ∧ dval (Z.take (Z.length - dr)) % 2 = 1)) → I = 1) ∧ (¬ (dr ≠ 0 ∧ (10 ^ dr < 2 * dval (Z.drop (Z.length - dr)) ∨ 10 ^ dr = 2 * dval (Z.drop (Z.length - dr)) ∧ dval (Z.take (Z.length - dr)) % 2 = 1)) → I = 0) ∧ (if dr ≠ 0 ∧ (10 ^ dr < 2 * dval (Z.drop (Z.length - dr)) ∨ 10 ^ dr = 2 * dval (Z.drop (Z.length - dr)) ∧ dval (Z.take (Z.length - dr)) % 2 = 1) then 1 else 0) = I := ⟨_, fun h => if_pos h, fun h => if_neg h, rfl⟩
 rw [hIe] at hcase
 rw [hcase] at hmk hup ⊢
 clear hcase hIe hdiv hmod hval hrnd
 generalize dval (List.take (Z.length - dr) Z) = A at *
 generalize dval (List.drop (Z.length - dr) Z) = R at *
 have hj : ∀ k, texts_rounded.f (k + 1) s (B D) e = reals_Make.f k s 0 ((A + I : Nat) : Int) (e + dr) := by
  intro k
  unfold texts_rounded.f
  rw [hpd, Option.bind_some, htl, Option.bind_some, if_neg (by rw [B_toList]; exact hz), B_size]
  show texts_rounded.j0 (k + 1) s (B Z) e (mx (mx (wrap64 ((Z.length : Int) - (Rr.pd s : Int))) (wrap64 ((-400) - e))) 0) (decide ((mx (mx (wrap64 ((Z.length : Int) - (Rr.pd s : Int))) (wrap64 ((-400) - e))) 0) > (Z.length : Int))) = _
  rw [hmx, decide_eq_false (by omega)]
  have hsame : ∀ (o : Option (Int × Int × Int)), (o.bind fun b => some (b.1, b.2.1, b.2.2)) = o := by intro o; cases o <;> rfl
  simp only [texts_rounded.j0]
  rw [if_neg (by simp), B_size, hw2, if_pos (by omega), if_pos (by omega), Int.toNat_natCast, hext1, hnum, Option.bind_some, hext2, hw1, B_toList]
  dsimp only
  have hw3 : wrap64 (((A : Nat) : Int) + 1) = ((A + 1 : Nat) : Int) := by rw [t64 (by omega) (by omega)]; omega
  by_cases hR : Z.drop (Z.length - dr) = []
  ·have hd0 : dr = 0 := by rw [← hRl, hR]; rfl
   rw [if_pos hR, hsame, hI0 (fun h => h.1 hd0)]; rfl
  ·have hd0 : dr ≠ 0 := fun h => hR (List.length_eq_zero_iff.1 (by rw [hRl]; exact h))
   have hh := hhalf hR
   rw [hRl] at hh
   have htr : strings_TrimRight.f (B (Z.drop (Z.length - dr))) (⟨#[48]⟩ : ByteArray) = some (B (tr48 (Z.drop (Z.length - dr)))) := by
    unfold strings_TrimRight.f
    rw [if_pos ⟨by decide, by rw [B_size, hRl]; omega⟩]; rfl
   have hcm : strings_Compare.f (B (tr48 (Z.drop (Z.length - dr)))) (⟨#[53]⟩ : ByteArray) = some (Lib.compareBytes (tr48 (Z.drop (Z.length - dr))) [53]) := rfl
   rw [if_neg hR, htr, Option.bind_some, hcm, Option.bind_some, hw3]
   by_cases hgt : Lib.compareBytes (tr48 (Z.drop (Z.length - dr))) [53] > 0
   ·rw [if_pos hgt, hsame, hI1 ⟨hd0, .inl (hh.1.1 hgt)⟩]
   ·rw [if_neg hgt]
    by_cases heq : Lib.compareBytes (tr48 (Z.drop (Z.length - dr))) [53] = 0
    ·rw [if_pos heq]
     have hodd : Int.tmod ((A : Nat) : Int) 2 = ((A % 2 : Nat) : Int) := rfl
     rw [hodd]
     by_cases ho : A % 2 = 1
     ·have ho1 : ((A % 2 : Nat) : Int) = 1 := by rw [ho]; rfl
      rw [if_pos ho1, hsame, hI1 ⟨hd0, .inr ⟨hh.2.1 heq, ho⟩⟩]
     ·have ho1 : ¬ ((A % 2 : Nat) : Int) = 1 := fun h => ho (Int.ofNat.inj h)
      rw [if_neg ho1, hsame, hI0 (fun h => by rcases h.2 with h2 | h2; exact hgt (hh.1.2 h2); exact ho h2.2)]; rfl
    ·rw [if_neg heq, hsame, hI0 (fun h => by rcases h.2 with h2 | h2; exact hgt (hh.1.2 h2); exact heq (hh.2.2 h2.1))]; rfl
 exact Ev.step hj hmk
theorem preal_ev {s : Int} (hs : szOk s) {w f x : List UInt8} (hw : w.all isd = true) (hf : f.all isd = true) (hne : w ++ f ≠ []) (hx : ExpOk x) (hl : (w ++ (dotL f ++ exL x)).length ≤ 3000) :
  Ev (fun k => texts_Real.f k s (B (w ++ (dotL f ++ exL x)))) (RR s false (dval (w ++ f)) (expV 1099511627776 x - (f.length : Int))) := by
 have hall : (w ++ f).all isd = true := by rw [List.all_append, hw, hf]; rfl
 have hlen : w.length + (dotL f).length + (exL x).length ≤ 3000 := by rw [List.length_append, List.length_append] at hl; omega
 have hdl := dotL_len f
 have hel := exL_len x
 have hwfl : (w ++ f).length ≤ 3000 := by
  rw [List.length_append]; split at hdl
  ·rename_i h; rw [h]; simp; omega
  ·omega
 have hxl : x.length ≤ 3000 := by
  split at hel
  ·rename_i h; rw [h]; simp
  ·omega
 have hpar := pparts_ev (l := w ++ (dotL f ++ exL x)) (by omega)
 rw [parts_again hw hf hne hx] at hpar
 have hcl := clamped_is hx (by omega)
 have hb : -1099511627776 ≤ expV 1099511627776 x ∧ expV 1099511627776 x ≤ 1099511627776 := by unfold expV; split <;> split <;> omega
 have hfl : f.length ≤ 3000 := by rw [List.length_append] at hwfl; omega
 have hr := prounded_ev hs hall (by omega) (e := expV 1099511627776 x - (f.length : Int)) (by omega) (by omega)
 have hsame : ∀ (o : Option (Int × Int × Int)), (o.bind fun b => some (b.1, b.2.1, b.2.2)) = o := by intro o; cases o <;> rfl
 have hpos : w.length + (dotL f).length + (exL x).length ≠ 0 := by
  intro h0
  refine hne (List.append_eq_nil_iff.2 ⟨List.length_eq_zero_iff.1 (by omega), ?_⟩)
  split at hdl
  ·assumption
  ·omega
 have hj : Ev (fun k => texts_Real.j0 k s (B w) (B f) (B x) false) (RR s false (dval (w ++ f)) (expV 1099511627776 x - (f.length : Int))) := by
  refine Ev.step (fun k => ?_) hr
  simp only [texts_Real.j0]
  rw [if_neg (by simp), if_pos (by rw [B_size, B_size]; rw [List.length_append] at hwfl; omega), hcl, Option.bind_some, B_app, B_size, t64 (by omega) (by omega), hsame]
 refine ev_of2 hpar hj (fun k e1 e2 => ?_)
 unfold texts_Real.f
 have hn0 : ¬ (((w.length + (dotL f).length + (exL x).length : Nat) : Int) = 0) := by omega
 have hsz : ((B (w ++ (dotL f ++ exL x))).size : Int) = ((w.length + (dotL f).length + (exL x).length : Nat) : Int) := by rw [B_size, List.length_append, List.length_append]; omega
 rw [psize_ok hs, Option.bind_some, if_pos rfl, e1, Option.bind_some]
 show (if (((w.length + (dotL f).length + (exL x).length : Nat) : Int) = 0) then texts_Real.j0 k s (B w) (B f) (B x) true else texts_Real.j0 k s (B w) (B f) (B x) (decide (((w.length + (dotL f).length + (exL x).length : Nat) : Int) < ((B (w ++ (dotL f ++ exL x))).size : Int)))) = _
 rw [if_neg hn0, hsz, decide_eq_false (by omega)]
 exact e2
theorem preadreal_join {s : Int} {l t : List UInt8} {a N : Nat} {b : Bool} {pw pf px : ByteArray} {R : Int × Int × Int} (hs : szOk s) (hl : l.length ≤ 2000) (hN : a + N ≤ l.length)
  (hp : Ev (fun k => texts_start.f k (B l) (B signs2)) ((a : Int), b, 0)) (hpar : Ev (fun k => texts_parts.f k (B (l.drop a))) (pw, pf, px, (N : Int)))
  (hext : (B l).extract a (a + N) = B t) (hre : Ev (fun k => texts_Real.f k s (B t)) R) :
  Ev (fun k => texts_ReadReal.f k s (B l)) (if b = true then wrap64 (-R.1) else R.1, R.2.1, ((a + N : Nat) : Int), R.2.2) := by
 have hsg : (⟨#[43, 45]⟩ : ByteArray) = B signs2 := rfl
 have hw1 : wrap64 ((a : Int) + (N : Int)) = ((a + N : Nat) : Int) := by rw [t64 (by omega) (by omega)]; omega
 refine ev_of3 hp hpar hre (fun n e1 e2 e3 => ?_)
 unfold texts_ReadReal.f
 rw [psize_ok hs, hsg, Option.bind_some, if_pos rfl, e1, Option.bind_some, if_pos (by trivial), if_pos (by omega), if_pos (by rw [B_size]; omega), Int.toNat_natCast, B_from, e2, Option.bind_some]
 show (if (a : Int) ≤ wrap64 ((a : Int) + (N : Int)) then (if wrap64 ((a : Int) + (N : Int)) ≤ ((B l).size : Int) then ((texts_Real.f n s ((B l).extract a ((wrap64 ((a : Int) + (N : Int))) : Int).toNat)).bind fun bt303 => if b = true then some (wrap64 (-bt303.1), bt303.2.1, wrap64 ((a : Int) + (N : Int)), bt303.2.2) else some (bt303.1, bt303.2.1, wrap64 ((a : Int) + (N : Int)), bt303.2.2)) else none) else none) = _
 rw [hw1, if_pos (by omega), if_pos (by rw [B_size]; omega), Int.toNat_natCast, hext, e3, Option.bind_some]
 cases b <;> rfl
theorem parts_len {w f x : List UInt8} (hne : w ++ f ≠ []) : w.length + (dotL f).length + (exL x).length ≠ 0 ∧ (w ++ f).length ≤ w.length + (dotL f).length + (exL x).length ∧ (w ++ (dotL f ++ exL x)).length = w.length + (dotL f).length + (exL x).length := by
 have hdl := dotL_len f
 have hp := List.length_pos_iff.2 hne
 rw [List.length_append] at hp
 rw [List.length_append, List.length_append, List.length_append]
 have : f.length ≤ (dotL f).length := by
  rw [hdl]; split
  ·rename_i h; rw [h]; exact Nat.le_refl _
  ·omega
 clear hdl
 omega
theorem awakeR : Ev (fun k => environlaw03_awake.f k) true := Ev.of (fun k => environlaw03_awake.mono k) (k := 1200) (by decide +kernel)
theorem dval_dd (u : Nat) : dval (Lib.decDigits u) = u := by
 induction u using Nat.strongRecOn with
 | ind u ih =>
  rw [Lib.decDigits]
  by_cases h : u < 10
  ·rw [dif_pos h, dval_cons]
   have : (UInt8.ofNat (48 + u)).toNat = 48 + u := by rw [UInt8.toNat_ofNat', Nat.mod_eq_of_lt (by omega)]
   rw [this]; show (48 + u - 48) * 10 ^ 0 + 0 = u; omega
  ·rw [dif_neg h, dval_snoc, ih (u / 10) (by omega)]
   have : (UInt8.ofNat (48 + u % 10)).toNat = 48 + u % 10 := by rw [UInt8.toNat_ofNat', Nat.mod_eq_of_lt (by omega)]
   rw [this]; omega
theorem dd_all (u : Nat) : (Lib.decDigits u).all isd = true := List.all_eq_true.2 fun c hc => decide_eq_true (dd_range u c hc)
def sg0 (m : Int) : List UInt8 := if m < 0 then [45] else []
theorem sg0_or (m : Int) : sg0 m = [] ∨ sg0 m = [45] := by unfold sg0; split <;> simp
theorem sg0_is (m : Int) : sgL (decide (m < 0)) 0 = sg0 m := by unfold sgL sg0; by_cases h : m < 0 <;> simp [h]
theorem nb_head {c : UInt8} (h : c ∉ blanks) (r : List UInt8) : nb (c :: r) = 0 := by
 unfold nb; rw [List.takeWhile_cons, if_neg (by simpa using h)]; rfl
theorem isd_blank {c : UInt8} (h : isd c = true) : c ∉ blanks ∧ c ∉ signs2 := by
 have := of_decide_eq_true h
 constructor
 ·intro hm
  have : c = 9 ∨ c = 10 ∨ c = 12 ∨ c = 32 := by simpa [blanks] using hm
  rcases this with rfl | rfl | rfl | rfl <;> exact absurd h (by decide)
 ·intro hm
  have : c = 43 ∨ c = 45 := by simpa [signs2] using hm
  rcases this with rfl | rfl <;> exact absurd h (by decide)
theorem start_num {sg : List UInt8} (hsg : sg = [] ∨ sg = [45]) {c : UInt8} {r : List UInt8} (hc : isd c = true) : startL signs2 (sg ++ c :: r) = ((sg.length : Int), decide (sg = [45]), 0) := by
 have hb := isd_blank hc
 rcases hsg with rfl | rfl
 ·unfold startL
  rw [List.nil_append, nb_head hb.1, if_neg (by simp), if_neg (by show ¬ c ∈ signs2; exact hb.2)]; rfl
 ·unfold startL
  have : nb ([45] ++ c :: r) = 0 := nb_head (by decide) _
  rw [this, if_neg (by simp), if_pos (by show (45 : UInt8) ∈ signs2; decide)]; rfl
theorem preadint_ev {s : Int} {l : List UInt8} (hs : szOk s) (hl : l.length ≤ 10000) {a : Nat} {b : Bool} (h : startL signs2 l = ((a : Int), b, 0)) (ha : a ≤ l.length) : Ev (fun k => texts_ReadInt.f k s (B l)) (readI (maxI s) l a b) := by
 have hp := pstart_ev signs2 (l := l) (by omega)
 have hsg : (⟨#[43, 45]⟩ : ByteArray) = B signs2 := rfl
 have hM := maxI_bd s
 rw [h] at hp
 have hD := all_tw (l.drop a)
 have hDl : ((l.drop a).takeWhile isd).length = nd (l.drop a) := rfl
 have hndl := nd_le (l.drop a)
 rw [List.length_drop] at hndl
 have hdp := pdig_ev (l := l.drop a) (by rw [List.length_drop]; omega)
 have hpi := pint_ev (pmax_ok hs) hM.1 hM.2 hD (by omega)
 have hx := B_part l a (nd (l.drop a))
 rw [nd_take] at hx
 have hw : wrap64 ((a : Int) + ((nd (l.drop a) : Nat) : Int)) = ((a + nd (l.drop a) : Nat) : Int) := by rw [t64 (by omega) (by omega)]; omega
 refine ev_of3 hp hdp hpi (fun n e1 e2 e3 => ?_)
 unfold texts_ReadInt.f
 rw [psize_ok hs, hsg, Option.bind_some, if_pos rfl, e1, Option.bind_some, if_pos (by trivial), if_pos (by omega), if_pos (by rw [B_size]; omega), Int.toNat_natCast, B_from, e2, Option.bind_some, hw, if_pos (by omega), if_pos (by rw [B_size]; omega), Int.toNat_natCast, hx, e3, Option.bind_some]
 unfold readI
 cases b <;> rfl
theorem preadint_no {s : Int} (hs : ¬ szOk s) (t : ByteArray) : Ev (fun k => texts_ReadInt.f k s t) (0, 0, 1) := by
 refine Ev.congr (f := fun _ => some (0, 0, 1)) (fun k => ?_) (Ev.now _)
 unfold texts_ReadInt.f
 rw [psize_no hs, Option.bind_some, if_neg (by decide)]
theorem whole0 (n : Int) : wholeL n 0 = sg0 n ++ Lib.decDigits n.natAbs := by
 unfold wholeL fillL sg0
 rw [if_pos (by decide), if_pos rfl]
 by_cases h : n < 0
 ·rw [if_pos h, if_pos h]
 ·rw [if_neg h, if_neg h, if_neg (by decide)]
theorem dd_cons (u : Nat) : ∃ c r, Lib.decDigits u = c :: r ∧ isd c = true := by
 cases h : Lib.decDigits u with
 | nil => exact absurd h (dd_ne u)
 | cons c r =>
  have := dd_all u
  rw [h, List.all_cons, Bool.and_eq_true] at this
  exact ⟨c, r, rfl, this.1⟩
theorem back_int (s : Int) {n : Int} (hn : I64t n) : ∃ r, Ev (fun k => texts_ReadInt.f k s (B (wholeL n 0 ++ [59]))) r ∧ (r.2.2 = 0 → r.1 = n ∧ r.2.1 = ((wholeL n 0).length : Int)) := by
 by_cases hs : szOk s
 ·obtain ⟨c, r, hcr, hc⟩ := dd_cons n.natAbs
  have hsg := sg0_or n
  have hlen := dd_len n.natAbs 18 (by unfold I64t at hn; omega)
  have hst : startL signs2 (wholeL n 0 ++ [59]) = (((sg0 n).length : Int), decide (sg0 n = [45]), 0) := by
   rw [whole0, hcr, List.append_assoc, List.cons_append]; exact start_num hsg hc
  have hsl : (sg0 n).length ≤ 1 := by rcases hsg with h | h <;> rw [h] <;> simp
  have htot : (wholeL n 0).length = (sg0 n).length + (Lib.decDigits n.natAbs).length := by rw [whole0, List.length_append]
  have h := preadint_ev hs (l := wholeL n 0 ++ [59]) (by rw [List.length_append, List.length_singleton]; omega) hst (by rw [List.length_append]; omega)
  refine ⟨_, h, ?_⟩
  have hdr : (wholeL n 0 ++ [59]).drop (sg0 n).length = Lib.decDigits n.natAbs ++ [59] := by rw [whole0, List.append_assoc, List.drop_left]
  have htw : (Lib.decDigits n.natAbs ++ [59]).takeWhile isd = Lib.decDigits n.natAbs := tw_app (dd_all _) rfl
  have hnd : nd (Lib.decDigits n.natAbs ++ [59]) = (Lib.decDigits n.natAbs).length := by unfold nd; rw [htw]
  unfold readI
  rw [hdr, htw, hnd]
  unfold intL
  rw [if_neg (dd_ne _), dval_dd]
  by_cases hv : (n.natAbs : Int) ≤ maxI s
  ·rw [if_pos hv]
   intro _
   refine ⟨?_, by rw [htot]⟩
   unfold sg0
   by_cases hneg : n < 0
   ·rw [if_pos hneg]
    show (if decide (([45] : List UInt8) = [45]) = true then wrap64 (-(n.natAbs : Int)) else (n.natAbs : Int)) = n
    rw [if_pos (by decide)]
    have := maxI_bd s
    rw [t64 (by omega) (by omega)]; omega
   ·rw [if_neg hneg]
    show (if decide (([] : List UInt8) = [45]) = true then wrap64 (-(n.natAbs : Int)) else (n.natAbs : Int)) = n
    rw [if_neg (by decide)]
    omega
  ·rw [if_neg hv]
   intro h0
   exact absurd h0 (show ¬ ((11 : Int) = 0) by decide)
 ·exact ⟨_, preadint_no hs _, fun h => absurd h (by decide)⟩
theorem word_read {n u : Nat} (hn : n ≤ 60) (hu : u < 2 ^ n) (v : List UInt8) : ∀ r i : Nat, i + r = n → rwL (wordL n u ++ v) r i ((u / 2 ^ r : Nat) : Int) = ((u : Int), (n : Int), 0) := by
 intro r
 induction r with
 | zero =>
  intro i hi
  obtain rfl : i = n := by omega
  rw [rwL, Nat.pow_zero, Nat.div_one]
 | succ r ih =>
  intro i hi
  have hlen : (wordL n u).length = n := by unfold wordL; rw [List.length_map, List.length_range]
  have hat : (wordL n u ++ v).getD i 0 = bitL n u i := by
   have h1 : i < (wordL n u).length := by omega
   rw [List.getD_eq_getElem?_getD, List.getElem?_append_left h1]
   unfold wordL
   simp [show i < n by omega]
  have hlt : ¬ i = (wordL n u ++ v).length := by rw [List.length_append, hlen]; omega
  have hp := p60 hn
  have hq : u / 2 ^ r ≤ u := Nat.div_le_self _ _
  have hdd : u / 2 ^ (r + 1) = u / 2 ^ r / 2 := by rw [Nat.pow_succ, Nat.div_div_eq_div_mul]
  have hi1 : n - 1 - i = r := by omega
  have ih := ih (i + 1) (by omega)
  rw [rwL, if_neg hlt, hat]
  unfold bitL
  rw [hi1, hdd]
  have hub : u < 1152921504606846976 := Nat.lt_of_lt_of_le hu hp
  generalize u / 2 ^ r = q at *
  have hw : wrap64 (2 * ((q / 2 : Nat) : Int)) = 2 * ((q / 2 : Nat) : Int) := t64 (by omega) (by omega)
  rw [hw]
  by_cases hb : q % 2 = 1
  ·rw [if_pos hb, if_pos rfl, t64 (by omega) (by omega), show 2 * ((q / 2 : Nat) : Int) + 1 = (q : Int) by omega]
   exact ih
  ·rw [if_neg hb, if_neg (by decide), if_pos rfl, show 2 * ((q / 2 : Nat) : Int) = (q : Int) by omega]
   exact ih
theorem back_word {s n : Int} (k0 : Nat) : ∃ t e, Ev (fun k => texts_Word.f k s n) (B t, e) ∧ t.length ≤ 60 ∧ (e = 0 → ∃ r, Ev (fun k => texts_ReadWord.f k s (B (t ++ [84]))) r ∧ r = (n, (t.length : Int), 0)) := by
 by_cases hs : szOk s
 ·have hof : ∃ t, ints_of.f s = some (t, (widI s : Int), 0) := by rcases hs with rfl | rfl | rfl <;> exact ⟨_, rfl⟩
  obtain ⟨tt, hof⟩ := hof
  have hW := widI_bd s
  have hwp : 0 < widI s := by unfold widI; split <;> (try split) <;> omega
  have hpw : Ev (fun k => texts_Word.f k s n) (if isW (widI s) n = true then (B (wordL (widI s) n.toNat), 0) else (B [], 11)) := ⟨100, fun k hk => pword_is hof hW k hk⟩
  by_cases hi : isW (widI s) n = true
  ·rw [if_pos hi] at hpw
   have hr := of_decide_eq_true hi
   have hlen : (wordL (widI s) n.toNat).length = widI s := by unfold wordL; rw [List.length_map, List.length_range]
   refine ⟨_, _, hpw, by omega, fun _ => ⟨_, ?_, rfl⟩⟩
   have hsg : (⟨#[]⟩ : ByteArray) = B [] := rfl
   have hp := pstart_ev [] (l := wordL (widI s) n.toNat ++ [84]) (by rw [List.length_append, List.length_singleton]; omega)
   have hnb : nb (wordL (widI s) n.toNat ++ [84]) = 0 := by
    cases hwl : wordL (widI s) n.toNat with
    | nil => rw [hwl] at hlen; simp at hlen; omega
    | cons c r =>
     have hc : c ∈ wordL (widI s) n.toNat := by rw [hwl]; exact List.mem_cons_self ..
     unfold wordL at hc
     rw [List.mem_map] at hc
     obtain ⟨i, _, hci⟩ := hc
     refine nb_head ?_ _
     unfold bitL at hci
     split at hci
     ·rw [← hci]; decide
     ·rw [← hci]; decide
   unfold startL at hp
   rw [hnb, if_neg (by rw [List.length_append, List.length_singleton]; omega), if_neg (by simp)] at hp
   have hpl := pword_loop (l := wordL (widI s) n.toNat ++ [84]) (by rw [List.length_append, List.length_singleton]; omega) (widI s) (by omega) (widI s) 0 0 0 (by omega) (by omega)
   have hwr := word_read (n := widI s) (u := n.toNat) hW (by omega) [84] (widI s) 0 (by omega)
   rw [Nat.div_eq_of_lt (show n.toNat < 2 ^ widI s by omega), Int.toNat_of_nonneg hr.1] at hwr
   have hwr : rwL (wordL (widI s) n.toNat ++ [84]) (widI s) 0 0 = (n, (widI s : Int), 0) := hwr
   have hpl : Ev (fun k => texts_ReadWord.l0 k (B (wordL (widI s) n.toNat ++ [84])) ((0 : Nat) : Int) 0 (widI s : Int) ((0 : Nat) : Int)) (rwL (wordL (widI s) n.toNat ++ [84]) (widI s) 0 0) := hpl
   rw [hwr] at hpl
   refine ev_of2 hp hpl (fun k e1 e2 => ?_)
   unfold texts_ReadWord.f
   rw [pwid_ok hs, Option.bind_some, if_pos rfl, hsg, e1, Option.bind_some, if_pos (by rfl), hlen]
   exact e2
  ·rw [if_neg hi] at hpw
   exact ⟨[], 11, hpw, by simp, fun h => absurd h (by decide)⟩
 ·refine ⟨[], 1, ?_, by simp, fun h => absurd h (by decide)⟩
  refine Ev.congr (f := fun _ => some (B [], 1)) (fun k => ?_) (Ev.now _)
  unfold texts_Word.f
  rw [pwid_no hs]; rfl
instance szDec (s : Int) : Decidable (szOk s) := by unfold szOk; infer_instance
theorem rvalid_gen {s m e : Int} (hm : I64t m) (k : Nat) (hk : 21 ≤ k) : environref02_Valid.f k s m e = some (decide (szOk s) && okP (Rr.pd s) m e) := by
 by_cases hs : szOk s
 ·have hp := Rr.pd_of (er_ok hs)
  have hd : environref02_Digits.f s = some ((Rr.pd s : Int), 0) := by rcases hs with rfl | rfl | rfl <;> rfl
  rw [decide_eq_true hs, Bool.true_and]
  unfold environref02_Valid.f okP
  rw [hd]
  simp only [Option.bind_some]
  rw [if_pos trivial]
  by_cases hz : m = 0
  ·rw [if_pos hz, if_pos hz]; rfl
  ·have hu : m.natAbs ≠ 0 := by omega
   have hlow := lowD_len (u := m.natAbs) (by unfold I64t at hm; omega)
   have hst := lowD_step hu
   rw [if_neg hz, if_neg hz, of_is hm k hk, dg_low]
   simp only [Option.bind_some]
   have hr : rd (lowD m.natAbs) 0 = ((m.natAbs % 10 : Nat) : Int) := by rw [hst]; rfl
   have hl : 1 ≤ (lowD m.natAbs).length := by rw [hst]; simp
   rw [hr]
   generalize (lowD m.natAbs).length = d at *
   generalize Rr.pd s = p at *
   have e1 : wrap64 ((wrap64 ((p : Int) + 400)) - (d : Int)) = p + 400 - d := by rw [t64 (n := (p : Int) + 400) (by omega) (by omega), t64 (by omega) (by omega)]
   rw [if_pos (by omega), e1]
   by_cases h1 : m.natAbs % 10 = 0
   ·rw [if_pos (by omega), decide_eq_false (fun h => h.1 h1)]
   ·rw [if_neg (by omega)]
    by_cases h2 : d ≤ p
    ·rw [if_pos (by omega)]
     by_cases h3 : e ≥ -400
     ·rw [if_pos h3]; congr 1; rw [decide_eq_decide]
      exact ⟨fun h => ⟨h1, h2, h3, by omega⟩, fun h => by have := h.2.2.2; omega⟩
     ·rw [if_neg h3, decide_eq_false (fun h => h3 h.2.2.1)]
    ·rw [if_neg (by omega), decide_eq_false (fun h => h2 h.2.1)]
 ·have hno := sz_no hs
  rw [decide_eq_false hs, Bool.false_and]
  unfold environref02_Valid.f environref02_Digits.f
  rw [if_neg hno.1, if_neg hno.2.1, if_neg hno.2.2, Option.bind_some, if_neg (by decide)]
theorem okP_ok {p : Nat} {m e : Int} (h : okP p m e = true) : Rr.Ok p m.natAbs e := by
 unfold okP at h
 split at h
 ·rename_i hz
  have he := of_decide_eq_true h
  subst hz; subst he
  exact ⟨fun _ => rfl, fun h => absurd rfl h, by rw [show (0 : Int).natAbs = 0 from rfl, dg_zero]; omega, by decide, by rw [show (0 : Int).natAbs = 0 from rfl, dg_zero]; omega⟩
 ·rename_i hz
  have h := of_decide_eq_true h
  exact ⟨fun h0 => absurd (by omega) hz, fun _ => h.1, h.2.1, h.2.2.1, h.2.2.2⟩
theorem rr_same {s : Int} (hs : szOk s) {m e : Int} (ho : okP (Rr.pd s) m e = true) (j : Nat) : RR s false (m.natAbs * 10 ^ j) (e - j) = ((m.natAbs : Int), e, 0) := by
 unfold RR
 rw [Rr.rnd_scale, Rr.rnd_ok 0 false (okP_ok ho)]; rfl
theorem expV_of {E : Int} (h0 : -2000 ≤ E) (h1 : E ≤ 2000) : expV 1099511627776 (sg0 E ++ Lib.decDigits E.natAbs) = E ∧ ExpOk (sg0 E ++ Lib.decDigits E.natAbs) := by
 have hsg : sg0 E = [] ∨ sg0 E = [43] ∨ sg0 E = [45] := by rcases sg0_or E with h | h; exact .inl h; exact .inr (.inr h)
 have hx := x_parts hsg (dd_ne E.natAbs) (dd_all E.natAbs)
 refine ⟨?_, .inr ⟨_, _, rfl, hsg, dd_ne _, dd_all _⟩⟩
 unfold expV xneg
 have hle : (E.natAbs : Int) ≤ 1099511627776 := by omega
 rw [hx.1, hx.2, dval_dd, if_pos hle]
 unfold sg0
 by_cases h : E < 0
 ·rw [if_pos h, if_pos (by simp)]; omega
 ·rw [if_neg h, if_neg (by simp)]; omega
theorem expV_nil : expV 1099511627776 [] = 0 ∧ ExpOk [] := ⟨rfl, .inl rfl⟩
theorem back_real {s m e : Int} (hs : szOk s) (hm : I64t m) (ho : okP (Rr.pd s) m e = true) {w f x : List UInt8} (hw : w.all isd = true) (hf : f.all isd = true) (hwne : w ≠ []) (hx : ExpOk x) (j : Nat)
  (hv : dval (w ++ f) = m.natAbs * 10 ^ j) (he : expV 1099511627776 x - (f.length : Int) = e - j) (hl : (w ++ (dotL f ++ exL x)).length ≤ 1990) :
  Ev (fun k => texts_ReadReal.f k s (B (sg0 m ++ (w ++ (dotL f ++ exL x)) ++ [32]))) (m, e, ((sg0 m ++ (w ++ (dotL f ++ exL x))).length : Int), 0) := by
 have hne : w ++ f ≠ [] := fun h => hwne (List.append_eq_nil_iff.1 h).1
 have hsg := sg0_or m
 have hsl : (sg0 m).length ≤ 1 := by rcases hsg with h | h <;> rw [h] <;> simp
 obtain ⟨hpos, hwfl, hcat⟩ := parts_len (x := x) hne
 have hcons : ∃ c r, w = c :: r ∧ isd c = true := by
  cases w with
  | nil => exact absurd rfl hwne
  | cons c r => rw [List.all_cons, Bool.and_eq_true] at hw; exact ⟨c, r, rfl, hw.1⟩
 obtain ⟨c, r, hcr, hc⟩ := hcons
 have hst : startL signs2 (sg0 m ++ (w ++ (dotL f ++ exL x)) ++ [32]) = (((sg0 m).length : Int), decide (sg0 m = [45]), 0) := by
  rw [hcr, List.append_assoc, List.cons_append, List.cons_append]; exact start_num hsg hc
 have hp := pstart_ev signs2 (l := sg0 m ++ (w ++ (dotL f ++ exL x)) ++ [32]) (by rw [List.length_append, List.length_append, List.length_singleton]; omega)
 rw [hst] at hp
 have hdr : (sg0 m ++ (w ++ (dotL f ++ exL x)) ++ [32]).drop (sg0 m).length = w ++ (dotL f ++ (exL x ++ [32])) := by
  rw [List.append_assoc, List.drop_left, List.append_assoc, List.append_assoc]
 have hpar := pparts_ev (l := (sg0 m ++ (w ++ (dotL f ++ exL x)) ++ [32]).drop (sg0 m).length) (by rw [List.length_drop, List.length_append, List.length_append, List.length_singleton]; omega)
 rw [hdr, parts_of hw hf hne hx (Stop.one (.inl rfl) [])] at hpar
 rw [← hdr] at hpar
 have hre := preal_ev hs hw hf hne hx (by omega)
 rw [hv, he, rr_same hs ho j] at hre
 have hext : (B (sg0 m ++ (w ++ (dotL f ++ exL x)) ++ [32])).extract (sg0 m).length ((sg0 m).length + (w.length + (dotL f).length + (exL x).length)) = B (w ++ (dotL f ++ exL x)) := by
  rw [B_part, hdr, ← hcat]
  have : w ++ (dotL f ++ (exL x ++ [32])) = (w ++ (dotL f ++ exL x)) ++ [32] := by simp
  rw [this, List.take_left]
 have hN : (sg0 m).length + (w.length + (dotL f).length + (exL x).length) ≤ (sg0 m ++ (w ++ (dotL f ++ exL x)) ++ [32]).length := by rw [List.length_append, List.length_append, hcat]; omega
 have hj := preadreal_join (N := w.length + (dotL f).length + (exL x).length) (b := decide (sg0 m = [45])) hs (by rw [List.length_append, List.length_append, List.length_singleton]; omega) hN hp hpar hext hre
 have hfin : ((if decide (sg0 m = [45]) = true then wrap64 (-((m.natAbs : Int), e, (0 : Int)).1) else ((m.natAbs : Int), e, (0 : Int)).1), ((m.natAbs : Int), e, (0 : Int)).2.1, (((sg0 m).length + (w.length + (dotL f).length + (exL x).length) : Nat) : Int), ((m.natAbs : Int), e, (0 : Int)).2.2) = (m, e, ((sg0 m ++ (w ++ (dotL f ++ exL x))).length : Int), 0) := by
  rw [List.length_append, hcat]
  show ((if decide (sg0 m = [45]) = true then wrap64 (-(m.natAbs : Int)) else (m.natAbs : Int)), e, _, (0 : Int)) = _
  congr 1
  unfold sg0
  unfold I64t at hm
  by_cases h : m < 0
  ·rw [if_pos h, if_pos (by simp)]
   have : wrap64 (-(m.natAbs : Int)) = m := by rw [t64 (by omega) (by omega)]; omega
   exact this
  ·rw [if_neg h, if_neg (by simp)]; omega
 rw [hfin] at hj
 exact hj
theorem itoa_is (n : Int) : Lib.itoa n = sg0 n ++ Lib.decDigits n.natAbs := by
 unfold Lib.itoa sg0
 by_cases h : n < 0
 ·rw [if_pos h, if_pos h]; rfl
 ·rw [if_neg h, if_neg h, show n.natAbs = n.toNat by omega]; rfl
theorem itoa_len {n : Int} (h : I64t n) : (Lib.itoa n).length ≤ 20 := by
 have hlen := dd_len n.natAbs 18 (by unfold I64t at h; omega)
 have hsl : (sg0 n).length ≤ 1 := by rcases sg0_or n with h | h <;> rw [h] <;> simp
 rw [itoa_is, List.length_append]; omega
def expT (e : Int) : List UInt8 := if e = 0 then [] else sg0 e ++ Lib.decDigits e.natAbs
theorem expT_ok {e : Int} (h0 : -2000 ≤ e) (h1 : e ≤ 2000) : expV 1099511627776 (expT e) = e ∧ ExpOk (expT e) := by
 unfold expT
 by_cases h : e = 0
 ·rw [if_pos h, h]; exact expV_nil
 ·rw [if_neg h]; exact expV_of h0 h1
theorem denote_is {m e : Int} (hm : I64t m) (he0 : -2000 ≤ e) (he1 : e ≤ 2000) : texts_Denote.f m e = some (B (sg0 m ++ (Lib.decDigits m.natAbs ++ (dotL [] ++ exL (expT e))))) := by
 have hl1 := itoa_len hm
 have hl2 := itoa_len (n := e) (by unfold I64t; omega)
 have hm1 := hm.1
 have hm2 := hm.2
 have h1 : strconv_FormatInt_72.f m 10 = some (B (Lib.itoa m)) := by unfold strconv_FormatInt_72.f; rw [if_pos ⟨hm1, hm2, rfl⟩]; rfl
 have h2 : strconv_Itoa_73.f e = some (B (Lib.itoa e)) := by unfold strconv_Itoa_73.f; rw [if_pos ⟨by omega, by omega⟩]; rfl
 have hd : dotL [] = [] := rfl
 unfold texts_Denote.f expT
 rw [h1, Option.bind_some, hd, List.nil_append]
 by_cases h : e = 0
 ·rw [if_pos h, if_pos h, itoa_is]
  have : exL [] = [] := rfl
  rw [this, List.append_nil]
 ·have hne : sg0 e ++ Lib.decDigits e.natAbs ≠ [] := fun h => dd_ne _ (List.append_eq_nil_iff.1 h).2
  have e101 : (⟨#[101]⟩ : ByteArray) = B [101] := rfl
  rw [if_neg h, if_neg h, h2, Option.bind_some, e101, B_app, B_size, B_size, B_size, if_pos (by omega), if_pos (by rw [List.length_append, List.length_singleton]; omega), B_app, itoa_is, itoa_is]
  unfold exL
  rw [if_neg hne, List.append_assoc]; rfl
theorem fill0 (l : List UInt8) : fillL 0 l = l := by unfold fillL; rw [if_pos rfl]
theorem dd_strip {u : Nat} (h : u ≠ 0) (r : List UInt8) : (Lib.decDigits u ++ r).dropWhile (([48] : List UInt8).contains ·) = Lib.decDigits u ++ r := by
 obtain ⟨c, t, e, hc⟩ := dd_head h
 have h48 : c ≠ 48 := by rintro rfl; exact absurd hc (by decide)
 rw [e, List.cons_append, dw48_cons, if_neg h48]
theorem all_zeros (n : Nat) : (List.replicate n (48 : UInt8)).all isd = true := List.all_eq_true.2 fun c hc => by rw [(List.mem_replicate.1 hc).2]; decide
theorem dval_zeros (n : Nat) : dval (List.replicate n (48 : UInt8)) = 0 := by
 induction n with
 | zero => rfl
 | succ n ih => rw [List.replicate_succ, dval_cons, ih, show ((48 : UInt8)).toNat - 48 = 0 from rfl, Nat.zero_mul]
theorem all_app {a b : List UInt8} (ha : a.all isd = true) (hb : b.all isd = true) : (a ++ b).all isd = true := by rw [List.all_append, ha, hb]; rfl
theorem all_take {a : List UInt8} (ha : a.all isd = true) (n : Nat) : (a.take n).all isd = true := List.all_eq_true.2 fun c hc => List.all_eq_true.1 ha c (List.mem_of_mem_take hc)
theorem all_drop {a : List UInt8} (ha : a.all isd = true) (n : Nat) : (a.drop n).all isd = true := List.all_eq_true.2 fun c hc => List.all_eq_true.1 ha c (List.mem_of_mem_drop hc)
theorem dg_dd {u : Nat} (h : u ≠ 0) : dg u = (Lib.decDigits u).length := by rw [dg_low, ← txt_low h, txtD_len]
def BackT (s m e : Int) (t : List UInt8) : Prop := t.length ≤ 2000 ∧ Ev (fun k => texts_ReadReal.f k s (B (t ++ [32]))) (m, e, (t.length : Int), 0)
theorem back_denote {s m e : Int} (hs : szOk s) (hm : I64t m) (ho : okP (Rr.pd s) m e = true) : BackT s m e (sg0 m ++ (Lib.decDigits m.natAbs ++ (dotL [] ++ exL (expT e)))) := by
 have hp := Rr.pd_of (er_ok hs)
 have hb := okP_bd (by omega) ho
 have hx := expT_ok (e := e) (by omega) (by omega)
 have hlen := dd_len m.natAbs 18 (by unfold I64t at hm; omega)
 have hel : (exL (expT e)).length ≤ 30 := by
  have := itoa_len (n := e) (by unfold I64t; omega)
  rw [itoa_is] at this
  rw [exL_len]; unfold expT
  by_cases h0 : e = 0
  ·rw [if_pos h0, if_pos rfl]; decide
  ·rw [if_neg h0]; split <;> omega
 have hl : (Lib.decDigits m.natAbs ++ (dotL [] ++ exL (expT e))).length ≤ 100 := by
  rw [List.length_append, List.length_append, show (dotL []).length = 0 from rfl]; omega
 have hsl : (sg0 m).length ≤ 1 := by rcases sg0_or m with h | h <;> rw [h] <;> simp
 refine ⟨by rw [List.length_append]; omega, ?_⟩
 exact back_real hs hm ho (f := []) (dd_all _) rfl (dd_ne _) hx.2 0 (by rw [List.append_nil, dval_dd, Nat.pow_zero, Nat.mul_one]) (by rw [hx.1]; rfl) (by omega)
theorem back_float {s m e : Int} (hs : szOk s) (hm : I64t m) (ho : okP (Rr.pd s) m e = true) : BackT s m e (floatL m e 0 ((Rr.pd s : Int) - 1) 0) := by
 have hp := Rr.pd_of (er_ok hs)
 have hb := okP_bd (by omega) ho
 have ho18 : okP 18 m e = true := okP_more (by omega) ho
 have hsl : (sg0 m).length ≤ 1 := by rcases sg0_or m with h | h <;> rw [h] <;> simp
 -- digits and exponent
 have hfd : ∃ (S : List UInt8) (E : Int), fdig m e ((Rr.pd s : Int) - 1) = (S, E) ∧ S.length = Rr.pd s ∧ S.all isd = true ∧ ∃ j : Nat, dval S = m.natAbs * 10 ^ j ∧ E - ((Rr.pd s : Int) - 1) = e - j ∧ -2000 ≤ E ∧ E ≤ 2000 := by
  unfold fdig
  by_cases hz : m = 0
  ·have he : e = 0 := by
    unfold okP at ho; rw [if_pos hz] at ho; exact of_decide_eq_true ho
   rw [if_pos hz]
   refine ⟨_, _, rfl, by rw [List.length_replicate]; omega, all_zeros _, (Rr.pd s - 1), ?_, by omega, by omega, by omega⟩
   rw [dval_zeros, hz]; simp
  ·have hu : m.natAbs ≠ 0 := by omega
   have hdg := (okP_ok ho).d
   rw [dg_dd hu] at hdg
   have hdn : 1 ≤ (Lib.decDigits m.natAbs).length := List.length_pos_iff.2 (dd_ne _)
   have hS : scaledL m (1 - ((Lib.decDigits m.natAbs).length : Int) + ((Rr.pd s : Int) - 1)) = Lib.decDigits m.natAbs ++ List.replicate (Rr.pd s - (Lib.decDigits m.natAbs).length) 48 := by
    unfold scaledL
    dsimp only
    rw [if_pos (by omega), dd_strip hu]
    congr 2; omega
   rw [if_neg hz]
   dsimp only
   rw [hS, if_neg (by rw [List.length_append, List.length_replicate]; omega)]
   refine ⟨_, _, rfl, by rw [List.length_append, List.length_replicate]; omega, all_app (dd_all _) (all_zeros _), Rr.pd s - (Lib.decDigits m.natAbs).length, ?_, by omega, by omega, by omega⟩
   rw [dval_app, dval_zeros, dval_dd, List.length_replicate, Nat.add_zero]
 obtain ⟨S, E, hfe, hSl, hSa, j, hv, hE, hE0, hE1⟩ := hfd
 have hwh : wholeL E 0 = sg0 E ++ Lib.decDigits E.natAbs := whole0 E
 have hx := expV_of (E := E) hE0 hE1
 have hno : (42 : UInt8) ∉ sg0 E ++ Lib.decDigits E.natAbs := by
  intro h
  rcases List.mem_append.1 h with h | h
  ·rcases sg0_or E with hh | hh <;> rw [hh] at h
   ·cases h
   ·exact absurd (List.mem_singleton.1 h) (by decide)
  ·exact absurd (dd_range _ _ h).1 (by decide)
 have hxne : sg0 E ++ Lib.decDigits E.natAbs ≠ [] := fun h => dd_ne _ (List.append_eq_nil_iff.1 h).2
 have hdne : S.drop 1 ≠ [] := fun h => by have := congrArg List.length h; rw [List.length_drop] at this; simp at this; omega
 have hform : floatL m e 0 ((Rr.pd s : Int) - 1) 0 = sg0 m ++ (S.take 1 ++ (dotL (S.drop 1) ++ exL (sg0 E ++ Lib.decDigits E.natAbs))) := by
  unfold floatL
  rw [if_pos ⟨by decide, by decide, by omega, by omega, ho18⟩, hfe]
  unfold float2 float1 dotL exL
  rw [hwh, if_neg hno, fill0, if_pos (by omega), if_neg hdne, if_neg hxne, sg0_is]
  simp
 have hel : (exL (sg0 E ++ Lib.decDigits E.natAbs)).length ≤ 30 := by
  have := itoa_len (n := E) (by unfold I64t; omega)
  rw [itoa_is] at this
  rw [exL_len, if_neg hxne]; omega
 have hdl : (dotL (S.drop 1)).length ≤ 20 := by rw [dotL_len, if_neg hdne, List.length_drop]; omega
 have htl : (S.take 1).length ≤ 1 := by rw [List.length_take]; omega
 have hl : (S.take 1 ++ (dotL (S.drop 1) ++ exL (sg0 E ++ Lib.decDigits E.natAbs))).length ≤ 100 := by
  rw [List.length_append, List.length_append]; omega
 rw [hform]
 refine ⟨by rw [List.length_append]; omega, ?_⟩
 refine back_real hs hm ho (all_take hSa 1) (all_drop hSa 1) (fun h => by have := congrArg List.length h; rw [List.length_take, List.length_nil] at this; omega) hx.2 j (by rw [List.take_append_drop]; exact hv) ?_ (by omega)
 rw [hx.1, List.length_drop, ← hE]; omega
theorem pref_no {w0 : Int} (h : w0 = 0) (sg p : List UInt8) : cutL w0 sg p = p := by unfold cutL; rw [if_neg (fun hh => hh.1 h)]
theorem fixL_zero (sg : List UInt8) (m e : Int) (n : Nat) : fixL 0 sg m e (n + 1) = sg ++ pointL (padL (scaledL m (e + n)) n) n := by
 rw [fixL_succ, pref_no rfl, if_pos (.inl rfl), fill0]
theorem padL_all {S : List UInt8} (h : S.all isd = true) (a : Nat) : (padL S a).all isd = true := by
 unfold padL; split
 ·exact all_app (all_zeros _) h
 ·exact h
theorem padL_val (S : List UInt8) (a : Nat) : dval (padL S a) = dval S := by
 unfold padL; split
 ·rw [dval_app, dval_zeros, Nat.zero_mul, Nat.zero_add]
 ·rfl
theorem back_fixed {s m e : Int} (hs : szOk s) (hm : I64t m) (ho : okP (Rr.pd s) m e = true) : BackT s m e (fixedL m e 0 (mx 0 (-e))) := by
 have hp := Rr.pd_of (er_ok hs)
 have hb := okP_bd (by omega) ho
 have ho18 : okP 18 m e = true := okP_more (by omega) ho
 have hsl : (sg0 m).length ≤ 1 := by rcases sg0_or m with h | h <;> rw [h] <;> simp
 have hdlen := dd_len m.natAbs 18 (by unfold I64t at hm; omega)
 obtain ⟨a, ha⟩ : ∃ a : Nat, mx 0 (-e) = (a : Int) := ⟨(mx 0 (-e)).toNat, by unfold mx; split <;> omega⟩
 have ha2 : (a : Int) = 0 ∧ 0 ≤ e ∨ (a : Int) = -e ∧ e < 0 := by rw [← ha]; unfold mx; split <;> omega
 have hform : fixedL m e 0 (mx 0 (-e)) = sg0 m ++ pointL (padL (scaledL m (e + a)) a) a := by
  unfold fixedL
  rw [ha, if_pos ⟨by decide, by omega, by omega, ho18⟩, Int.toNat_natCast, fixL_zero, sg0_is]
 -- the digits
 have hsc : ∃ S j, scaledL m (e + a) = S ∧ S.all isd = true ∧ S.length ≤ 500 ∧ dval S = m.natAbs * 10 ^ j ∧ (0 : Int) - a = e - (j : Nat) := by
  by_cases hz : m = 0
  ·have he : e = 0 := by
    unfold okP at ho; rw [if_pos hz] at ho; exact of_decide_eq_true ho
   refine ⟨[], 0, ?_, rfl, by simp, by rw [hz]; rfl, by omega⟩
   rw [hz]; exact scaledL_zero _
  ·have hu : m.natAbs ≠ 0 := by omega
   refine ⟨Lib.decDigits m.natAbs ++ List.replicate (e + a).toNat 48, (e + a).toNat, ?_, all_app (dd_all _) (all_zeros _), by rw [List.length_append, List.length_replicate]; omega, ?_, by omega⟩
   ·unfold scaledL
    dsimp only
    rw [if_pos (by omega), dd_strip hu]
   ·rw [dval_app, dval_zeros, dval_dd, List.length_replicate, Nat.add_zero]
 obtain ⟨S, j, hS, hSa, hSl, hv, hj⟩ := hsc
 rw [hform, hS]
 have hT := padL_len S a
 have hTa := padL_all hSa a
 have hTv := padL_val S a
 generalize padL S a = T at *
 have hTl : T.length ≤ 1000 := by omega
 have hpt : pointL T a = T.take (T.length - a) ++ (dotL (T.drop (T.length - a)) ++ exL []) := by
  have he0 : exL [] = [] := rfl
  rw [he0, List.append_nil]
  unfold pointL
  by_cases h0 : a = 0
  ·rw [if_pos h0, h0, Nat.sub_zero, List.take_length, List.drop_length]
   show T = T ++ []
   rw [List.append_nil]
  ·have hdne : T.drop (T.length - a) ≠ [] := fun h => by have := congrArg List.length h; rw [List.length_drop] at this; simp at this; omega
   rw [if_neg h0]; unfold dotL; rw [if_neg hdne]
 have hdl : (T.drop (T.length - a)).length = a := by rw [List.length_drop]; omega
 have htl : (T.take (T.length - a)).length = T.length - a := by rw [List.length_take]; omega
 have hdot : (dotL (T.drop (T.length - a))).length ≤ a + 1 := by rw [dotL_len]; split <;> omega
 have hl : (T.take (T.length - a) ++ (dotL (T.drop (T.length - a)) ++ exL [])).length ≤ 1500 := by
  rw [List.length_append, List.length_append, show (exL []).length = 0 from rfl]; omega
 rw [hpt]
 refine ⟨by rw [List.length_append]; omega, ?_⟩
 refine back_real hs hm ho (all_take hTa _) (all_drop hTa _) (fun h => by have := congrArg List.length h; rw [htl, List.length_nil] at this; omega) expV_nil.2 j (by rw [List.take_append_drop, hTv]; exact hv) ?_ (by omega)
 rw [expV_nil.1, hdl]; exact hj
theorem back_end {s m e : Int} (hs : szOk s) (hm : I64t m) (ho : okP (Rr.pd s) m e = true) (h0 : ¬ m < 0) : Ev (fun k => texts_Real.f k s (B (sg0 m ++ (Lib.decDigits m.natAbs ++ (dotL [] ++ exL (expT e)))))) (m, e, 0) := by
 have hp := Rr.pd_of (er_ok hs)
 have hb := okP_bd (by omega) ho
 have hx := expT_ok (e := e) (by omega) (by omega)
 have hd := (back_denote hs hm ho).1
 have hsg : sg0 m = [] := by unfold sg0; rw [if_neg h0]
 rw [hsg, List.nil_append] at hd ⊢
 have h := preal_ev hs (w := Lib.decDigits m.natAbs) (f := []) (x := expT e) (dd_all _) rfl (by rw [List.append_nil]; exact dd_ne _) hx.2 (by omega)
 have hr := rr_same hs ho 0
 rw [Nat.pow_zero, Nat.mul_one, show e - ((0 : Nat) : Int) = e by omega] at hr
 have hf : expV 1099511627776 (expT e) - (([] : List UInt8).length : Int) = e := by rw [hx.1]; show e - 0 = e; omega
 rw [List.append_nil, dval_dd, hf, hr, show (m.natAbs : Int) = m by omega] at h
 exact h
theorem back_loop {s m e : Int} (hs : szOk s) (hm : I64t m) (ho : okP (Rr.pd s) m e = true) (ts : List (List UInt8)) (hts : ∀ t ∈ ts, BackT s m e t) (hl : ts.length ≤ 10) : ∀ r i : Nat, i + r = ts.length →
  Ev (fun k => environlaw03_TextsBack.l0 k s (ts.map B) (ts.length : Int) (i : Int) m e) true := by
 intro r
 have hp := Rr.pd_of (er_ok hs)
 have hb := okP_bd (by omega) ho
 induction r with
 | zero =>
  intro i hi
  by_cases h0 : m < 0
  ·refine Ev.step (f := fun _ => some true) (fun k => ?_) (Ev.now _)
   simp only [environlaw03_TextsBack.l0]
   rw [if_neg (by omega), if_pos h0]
  ·refine Ev.step (f := fun k => (texts_Real.f k s (B (sg0 m ++ (Lib.decDigits m.natAbs ++ (dotL [] ++ exL (expT e)))))).bind fun bt733 => (if (bt733.1 == m && (bt733.2.1 == e)) = true then (some (bt733.2.2 == 0)) else (some false))) (fun k => ?_) (ev_of (back_end hs hm ho h0) (fun k e1 => ?_))
   ·simp only [environlaw03_TextsBack.l0]
    rw [if_neg (by omega), if_neg h0, denote_is hm (by omega) (by omega), Option.bind_some]
   ·rw [e1, Option.bind_some, beq_self_eq_true, beq_self_eq_true]; rfl
 | succ r ih =>
  intro i hi
  have hi' : i < ts.length := by omega
  have ht := hts ts[i] (List.getElem_mem ..)
  have hrd : rdOf ByteArray.empty (ts.map B) (i : Int) = B ts[i] := by
   unfold rdOf; rw [Int.toNat_natCast]; simp [List.getD, hi']
  have hnext := ih (i + 1) (by omega)
  have e32 : (⟨#[32]⟩ : ByteArray) = B [32] := rfl
  refine Ev.step (f := fun k => (texts_ReadReal.f k s (B (ts[i] ++ [32]))).bind fun bt727 => (if (!(bt727.1 == m) || (!(bt727.2.1 == e))) = true then (some false) else (if bt727.2.2.1 = (ts[i].length : Int) then (if bt727.2.2.2 = 0 then (environlaw03_TextsBack.l0 k s (ts.map B) (ts.length : Int) ((i + 1 : Nat) : Int) m e) else (some false)) else (some false)))) (fun k => ?_) (ev_of2 ht.2 hnext (fun k e1 e2 => ?_))
  ·simp only [environlaw03_TextsBack.l0]
   have hsz := ht.1
   rw [if_pos (by omega), if_pos (by omega), if_pos (by rw [List.length_map]; omega), hrd, B_size, if_pos (by omega), e32, B_app, t64 (by omega) (by omega)]; rfl
  ·rw [e1, Option.bind_some, beq_self_eq_true, beq_self_eq_true, if_neg (by simp), if_pos rfl, if_pos rfl]; exact e2
theorem back_j1 {s m e : Int} (hm : I64t m) : Ev (fun k => environlaw03_TextsBack.j1 k s m e) true := by
 by_cases hs : szOk s
 ·by_cases ho : okP (Rr.pd s) m e = true
  ·have hp := Rr.pd_of (er_ok hs)
   have hb := okP_bd (by omega) ho
   have hd : environref02_Digits.f s = some ((Rr.pd s : Int), 0) := by rcases hs with rfl | rfl | rfl <;> rfl
   have hw1 : wrap64 ((Rr.pd s : Int) - 1) = (Rr.pd s : Int) - 1 := t64 (by omega) (by omega)
   have hw2 : wrap64 (-e) = -e := t64 (by omega) (by omega)
   have hloop := back_loop hs hm ho [sg0 m ++ (Lib.decDigits m.natAbs ++ (dotL [] ++ exL (expT e))), floatL m e 0 ((Rr.pd s : Int) - 1) 0, fixedL m e 0 (mx 0 (-e))] (by
    intro t ht
    simp only [List.mem_cons, List.not_mem_nil, or_false] at ht
    rcases ht with rfl | rfl | rfl
    ·exact back_denote hs hm ho
    ·exact back_float hs hm ho
    ·exact back_fixed hs hm ho) (by simp) 3 0 rfl
   have hj2 : Ev (fun k => environlaw03_TextsBack.j2 k s ([B (sg0 m ++ (Lib.decDigits m.natAbs ++ (dotL [] ++ exL (expT e)))), B (floatL m e 0 ((Rr.pd s : Int) - 1) 0)] ++ [B (fixedL m e 0 (mx 0 (-e)))]) m e) true := by
    refine Ev.step (fun k => ?_) hloop
    simp only [environlaw03_TextsBack.j2]; rfl
   obtain ⟨K, hK⟩ := hj2
   refine ⟨max K 2000 + 1, fun k hk => ?_⟩
   obtain ⟨k, rfl⟩ : ∃ j, k = j + 1 := ⟨k - 1, by omega⟩
   have h2 := hK k (by omega)
   simp only [environlaw03_TextsBack.j1]
   rw [rvalid_gen hm k (by omega), decide_eq_true hs, ho, Option.bind_some, if_pos (by rfl), hd, Option.bind_some, denote_is hm (by omega) (by omega), Option.bind_some, hw1, pfloat_is k (by omega) hm, Option.bind_some, Option.bind_some, if_pos (by omega), hw2, pfixed_is k (by omega) hm, Option.bind_some, if_pos (by simp)]
   exact h2
  ·refine ⟨101, fun k hk => ?_⟩
   obtain ⟨k, rfl⟩ : ∃ j, k = j + 1 := ⟨k - 1, by omega⟩
   simp only [environlaw03_TextsBack.j1]
   rw [rvalid_gen hm k (by omega), Bool.eq_false_iff.2 ho, Bool.and_false, Option.bind_some, if_neg (by simp)]
 ·refine ⟨101, fun k hk => ?_⟩
  obtain ⟨k, rfl⟩ : ∃ j, k = j + 1 := ⟨k - 1, by omega⟩
  simp only [environlaw03_TextsBack.j1]
  rw [rvalid_gen hm k (by omega), decide_eq_false hs, Bool.false_and, Option.bind_some, if_neg (by simp)]
theorem back_j0 {s n m e : Int} (hm : I64t m) : Ev (fun k => environlaw03_TextsBack.j0 k s n false m e) true := by
 obtain ⟨t, er, hw, hl, hr⟩ := back_word (s := s) (n := n) 0
 have hj := back_j1 (s := s) (e := e) hm
 have e84 : (⟨#[84]⟩ : ByteArray) = B [84] := rfl
 by_cases h0 : er = 0
 ·obtain ⟨r, hrd, hre⟩ := hr h0
  subst h0; subst hre
  refine Ev.step (f := fun k => (texts_Word.f k s n).bind fun bt709 => (if bt709.2 = 0 then (if bt709.1.size + 1 ≤ 9223372036854775807 then ((texts_ReadWord.f k s (bt709.1 ++ (⟨#[84]⟩ : ByteArray))).bind fun bt711 => (if bt711.1 = n then (if bt711.2.1 = (bt709.1.size : Int) then (if bt711.2.2 = 0 then (environlaw03_TextsBack.j1 k s m e) else (some false)) else (some false)) else (some false))) else (none)) else (environlaw03_TextsBack.j1 k s m e))) (fun k => ?_) (ev_of3 hw hrd hj (fun k e1 e2 e3 => ?_))
  ·simp only [environlaw03_TextsBack.j0]; rw [if_neg (by simp)]
  ·rw [e1, Option.bind_some, if_pos rfl, if_pos (by rw [B_size]; omega), e84, B_app, e2, Option.bind_some, if_pos rfl, if_pos (by rw [B_size]), if_pos rfl]; exact e3
 ·refine Ev.step (f := fun k => (texts_Word.f k s n).bind fun bt709 => (if bt709.2 = 0 then (if bt709.1.size + 1 ≤ 9223372036854775807 then ((texts_ReadWord.f k s (bt709.1 ++ (⟨#[84]⟩ : ByteArray))).bind fun bt711 => (if bt711.1 = n then (if bt711.2.1 = (bt709.1.size : Int) then (if bt711.2.2 = 0 then (environlaw03_TextsBack.j1 k s m e) else (some false)) else (some false)) else (some false))) else (none)) else (environlaw03_TextsBack.j1 k s m e))) (fun k => ?_) (ev_of2 hw hj (fun k e1 e2 => ?_))
  ·simp only [environlaw03_TextsBack.j0]; rw [if_neg (by simp)]
  ·rw [e1, Option.bind_some, if_neg h0]; exact e2
theorem textsBack_ev {s n m e : Int} (hn : I64t n) (hm : I64t m) : Ev (fun k => environlaw03_TextsBack.f k s n m e) true := by
 obtain ⟨r, hri, hgood⟩ := back_int s hn
 have hj := back_j0 (s := s) (n := n) (e := e) hm
 have hwl := whole_len 0 hn
 have e59 : (⟨#[59]⟩ : ByteArray) = B [59] := rfl
 refine ev_of3 awakeR hri hj (fun k e1 e2 e3 => ?_)
 unfold environlaw03_TextsBack.f
 rw [e1, Option.bind_some, if_pos rfl, pwhole_is 0 hn, Option.bind_some, if_pos (by rw [B_size]; omega), e59, B_app, e2, Option.bind_some, Option.bind_some]
 by_cases h0 : r.2.2 = 0
 ·obtain ⟨h1, h2⟩ := hgood h0
  have hx : (r.2.1 != (((B (wholeL n 0)).size : Nat) : Int)) = false := by rw [h2, B_size]; simp
  rw [if_pos h0, if_pos h1, hx]; exact e3
 ·rw [if_neg h0]; exact e3
theorem textsBack_walk (s n m e : Int) (W : World) (hE : Env W) (hn : I64t n) (hm : I64t m) : Calls Tryz.prog 6 #[.int .i64 s, .int .i64 n, .agg #[.int .i64 m, .int .i64 e]] W fun e' w' => e' = .returned (.bool true) ∧ Below W.heap.size W w' := by
 obtain ⟨k, h⟩ := (textsBack_ev (s := s) (e := e) hn hm).rounds
 exact environlaw03_TextsBack.calls k s n m e true W hE h
end Go.Proofs.YtckbmniiecbalaaGreatDoor.PT
