import Derived.StillTailTactics
import Derived.ArgAppend
import Derived.Below
import Derived.BigQuiet
import Derived.Deep.AppendLies
import Derived.Deep.CutBlock
import Derived.Deep.DeepCutAuto
import Derived.Deep.Draws
import Derived.Deep.LoopGhost
import Derived.Deep.OwnRows
import Derived.Deep.QuietTactic
import Derived.Deep.RegionHeld3
import Derived.KernelRfl
import Derived.Laws.Bits64b
import Derived.Laws.BitsLemmas
import Derived.Laws.BytesArg
import Derived.Laws.Externs
import Derived.Laws.IdiomCopy
import Derived.Laws.MakeOwn
import Derived.Laws.MathBits
import Derived.Laws.OwnMore
import Derived.Laws.Rows
import Derived.Laws.Slices
import Derived.Lib.AppendStr
import Derived.Lib.ConvBytes
import Derived.Maps.AppendAt
import Derived.OrdersHeld
import Derived.OwnWalk
import Derived.RowKit
import Derived.RowKit3
import Derived.Tactics
import Derived.Test.YtonmdifmlpfcpaaProg
import Derived.WalkKit
import Derived.WideLaws
import Derived.Lib.Walk
import Derived.Lib.SliceRun
import Derived.Lib.JoinLaws
import Derived.Lib.AppendZeros
import Derived.Lib.Overlaps
import Derived.Lib.AppendZerosOnto
import Derived.Shelf.RegionOpenPlain
import Derived.Shelf.Spec.SlicesInsert
import Derived.Deep.RegionLaw
import Derived.Lib.BufferRead
import Derived.Laws.IdiomStrings
import Derived.Test.YtonmdifmlpfcpaaWWords
import Derived.Test.YtonmdifmlpfcpaaWLast
import Derived.Test.YtonmdifmlpfcpaaWTab
import Derived.Test.YtonmdifmlpfcpaaWFour
import Derived.Test.YtonmdifmlpfcpaaWQPut
import Derived.Test.YtonmdifmlpfcpaaWApart
import Derived.Test.YtonmdifmlpfcpaaWArr
import Derived.Test.YtonmdifmlpfcpaaWZeros
import Derived.Test.YtonmdifmlpfcpaaWFoot
import Derived.Test.YtonmdifmlpfcpaaWKept
import Derived.Test.YtonmdifmlpfcpaaWShare
import Derived.Test.YtonmdifmlpfcpaaWN
import Derived.Test.YtonmdifmlpfcpaaWFootNe
import Derived.Test.YtonmdifmlpfcpaaWAt
import Derived.Test.YtonmdifmlpfcpaaWEqStruct
import Derived.Test.YtonmdifmlpfcpaaWRepsOne
import Derived.Test.YtonmdifmlpfcpaaWInv
import Derived.Test.YtonmdifmlpfcpaaWInvWords
import Derived.Test.YtonmdifmlpfcpaaWGuard
import Derived.Test.YtonmdifmlpfcpaaWNEv
import Derived.Test.YtonmdifmlpfcpaaWMore
import Derived.Test.YtonmdifmlpfcpaaBmD
import Derived.Test.YtonmdifmlpfcpaaShelf
import Derived.Lib.Join
namespace Go.Proofs.Ytonmdifmlpfcpaa.PB
open Go.RowKit Go.Proofs.YtonmdifmlpfcpaaW.PrintWords Go.Proofs.YtonmdifmlpfcpaaW.PrintLast Go.Proofs.YtonmdifmlpfcpaaW.PrintMore
set_option linter.unusedVariables false
set_option linter.unusedSimpArgs false
set_option maxRecDepth 100000
set_option maxHeartbeats 1000000
/-! ### BooksBack: the world of one written book -/
def bkN : ByteArray := ⟨#[110, 101, 119]⟩
def f4m (p md : Nat) : MFl := { freshF 4 3 with pos := p, mood := md }
def bm (t : List UInt8) (p md : Nat) : MW := ⟨4, [⟨0, nameAt 0, [], false⟩, ⟨1, nameAt 1, [], true⟩, ⟨2, nameAt 2, [], true⟩, ⟨3, bkN, t, true⟩], [freshF 1 0, { freshF 2 1 with pos := 0, mood := 2 }, freshF 3 2, f4m p md]⟩
def bm0 : MW := ⟨3, [⟨0, nameAt 0, [], false⟩, ⟨1, nameAt 1, [], true⟩, ⟨2, nameAt 2, [], true⟩], [freshF 1 0, { freshF 2 1 with pos := 0, mood := 2 }, freshF 3 2]⟩
theorem bm_new : newR [] = (bm0, 0) := by rfl
theorem bm_est : bm0.establish bkN = (bm [] 0 0, 4, 0) := by rfl
theorem bm_file (t : List UInt8) (p md : Nat) : (bm t p md).file 4 = some (f4m p md) := by rfl
theorem bm_text (t : List UInt8) (p md q md' : Nat) : (bm t p md).text (f4m q md') = t := by rfl
theorem bm_may (t : List UInt8) (p md q md' : Nat) : (bm t p md).mayW (f4m q md') = true := by rfl
theorem bm_setF (t : List UInt8) (p md q md' : Nat) : (bm t p md).setF (f4m q md') = bm t q md' := by rfl
theorem bm_setT (t u : List UInt8) (p md : Nat) : (bm t p md).setT 3 u = bm u p md := by rfl
theorem bm_write (t : List UInt8) (p md md' : Nat) (c : UInt8) (hp : p = t.length) (hl : t.length < 1048576) : (bm t p md).writeF (f4m p md') c = (bm (t ++ [c]) (t.length + 1) 2, 0) := by
  subst hp
  unfold MW.writeF
  rw [bm_text, show (f4m t.length md').pos = t.length from rfl, Nat.min_self, if_neg (by omega), List.take_length]
  rfl
theorem bm_put (t : List UInt8) (md : Nat) (c : UInt8) (hc : 32 ≤ c.toNat ∧ c.toNat ≤ 126) (hcol : t.length - beginR t t.length < 200) (hl : t.length < 1048576) : (bm t t.length md).put 4 c.toNat = (bm (t ++ [c]) (t.length + 1) 2, 0) := by
  unfold MW.put
  rw [bm_file]
  show (if (bm t t.length md).mayW (f4m t.length md) = false then _ else _) = _
  rw [bm_may, bm_text, show (f4m t.length md).pos = t.length from rfl, Nat.min_self, if_neg (by decide), if_neg (by omega), if_neg (by omega), bm_write _ _ _ _ _ rfl hl]
  unfold putC
  rw [if_pos (by omega)]
  simp
theorem bm_nlw (t : List UInt8) (hl : t.length < 1048576) : (bm t t.length 2).newline 4 = (bm (t ++ [10]) (t.length + 1) 2, 0) := by
  unfold MW.newline
  rw [bm_file]
  show (if (f4m t.length 2).mood = 2 then _ else _) = _
  rw [if_pos (show (f4m t.length 2).mood = 2 from rfl), MW.endF, bm_may, if_pos rfl, bm_write _ _ _ _ _ rfl hl]
theorem bm_nl0 : (bm [] 0 0).newline 4 = (bm [] 0 0, 22) := by rfl
theorem bm_reset (t : List UInt8) (p md : Nat) : (bm t p md).reset 4 = (bm t 0 0, 0) := by rfl
theorem bm_ended (t : List UInt8) (i md : Nat) (hi : i < t.length) (h12 : (t.getD i 0).toNat ≠ 12) : (bm t i md).ended 4 2 = (decide ((t.getD i 0).toNat = 10), 0) := by
  unfold MW.ended
  rw [bm_file]
  show (if (2 : Int) < 0 ∨ (3 : Int) ≤ 2 then _ else _) = _
  rw [bm_text, show (f4m i md).pos = i from rfl, if_neg (by decide), if_neg (by omega)]
  generalize (t.getD i 0).toNat = x at *
  simp [h12]
theorem bm_nlr (t : List UInt8) (i md : Nat) (hi : i < t.length) (hm : md ≠ 2) (h10 : (t.getD i 0).toNat = 10) : (bm t i md).newline 4 = (bm t (i + 1) md, 0) := by
  unfold MW.newline
  rw [bm_file]
  show (if (f4m i md).mood = 2 then _ else _) = _
  have hd : t.drop i = t.getD i 0 :: t.drop (i + 1) := by
    rw [List.drop_eq_getElem_cons hi, List.getD_eq_getElem?_getD, List.getElem?_eq_getElem hi]; rfl
  have hn : nlR (f4m i md).fl (t.drop i) i = (i + 1, 0) := by rw [hd, nlR, h10, if_neg (by decide), if_pos rfl]
  rw [bm_text, show (f4m i md).pos = i from rfl, show (f4m i md).mood = md from rfl, if_neg hm, hn]
  rfl
theorem bm_get (t : List UInt8) (i md : Nat) (hi : i < t.length) (h10 : (t.getD i 0).toNat ≠ 10) (h12 : (t.getD i 0).toNat ≠ 12) : (bm t i md).read 4 true = (bm t (i + 1) 1, ((t.getD i 0).toNat : Int), 0) := by
  unfold MW.read
  rw [bm_file]
  show (if (4 : Int) = 2 then _ else _) = _
  have hd : t.drop i = t.getD i 0 :: t.drop (i + 1) := by
    rw [List.drop_eq_getElem_cons hi, List.getD_eq_getElem?_getD, List.getElem?_eq_getElem hi]; rfl
  rw [bm_text, show (f4m i md).pos = i from rfl, if_neg (by decide), hd, nextR, if_neg h12, if_neg h10]
  rfl
/-- the text that the lines make -/
def outS (t : List UInt8) (s : ByteArray) : List UInt8 := if t = [] ∧ s.data.toList = [] then [] else t ++ s.data.toList ++ [10]
def outT (ls : List ByteArray) : List UInt8 := ls.foldl outS []
theorem outT_snoc (ls : List ByteArray) (s : ByteArray) : outT (ls ++ [s]) = outS (outT ls) s := by unfold outT; rw [List.foldl_append]; rfl
/-- a right line -/
def lineOk (s : ByteArray) : Prop := s.size ≤ 200 ∧ ∀ c ∈ s.data.toList, 32 ≤ c.toNat ∧ c.toNat ≤ 126
/-- what holds of such texts -/
structure TxOk (t : List UInt8) (k : Nat) : Prop where
  len : t.length ≤ k * 201
  last : t = [] ∨ ∃ u, t = u ++ [10]
  chars : ∀ c ∈ t, c.toNat ≠ 12
theorem outT_ok : ∀ (n : Nat) (ls : List ByteArray), ls.length = n → (∀ s ∈ ls, lineOk s) → TxOk (outT ls) n
  | 0, ls, hn, _ => by
    obtain rfl := List.length_eq_zero_iff.1 hn
    exact ⟨by simp [outT], .inl rfl, fun c hc => by simp [outT] at hc⟩
  | n + 1, ls, hn, h => by
    have hne : ls ≠ [] := by rintro rfl; simp at hn
    obtain ⟨l, s, rfl⟩ : ∃ l s, ls = l ++ [s] := ⟨_, _, (List.dropLast_concat_getLast hne).symm⟩
    have ih := outT_ok n l (by simpa using hn) fun x hx => h x (by simp [hx])
    have hs := h s (by simp)
    have hsl : s.data.toList.length = s.size := by simp
    rw [outT_snoc]
    unfold outS
    split
    · exact ⟨Nat.zero_le _, .inl rfl, fun c hc => by simp at hc⟩
    · refine ⟨?_, .inr ⟨_, rfl⟩, fun c hc => ?_⟩
      · rw [List.length_append, List.length_append, hsl]
        have := ih.len; have := hs.1
        simp only [List.length_cons, List.length_nil]; omega
      · rcases List.mem_append.1 hc with hc | hc
        · rcases List.mem_append.1 hc with hc | hc
          · exact ih.chars c hc
          · have := hs.2 c hc; omega
        · obtain rfl := List.mem_singleton.1 hc
          decide
/-- where the line begins -/
theorem begin_at (t u : List UInt8) (hu : ∀ c ∈ u, c.toNat ≠ 10 ∧ c.toNat ≠ 12) (ht : t = [] ∨ ∃ v, t = v ++ [10]) : ∀ j, j ≤ u.length → beginR (t ++ u) (t.length + j) = t.length
  | 0, _ => by
    rcases ht with rfl | ⟨v, rfl⟩
    · rfl
    · rw [List.length_append]
      show beginR _ (v.length + 1) = _
      unfold beginR
      have h10 : ((v ++ [10] ++ u).getD v.length 0).toNat = 10 := by
        rw [List.append_assoc, List.getD_eq_getElem?_getD, List.getElem?_append_right (Nat.le_refl _), Nat.sub_self]; rfl
      rw [if_pos (.inl h10)]
      rfl
  | j + 1, hj => by
    show beginR _ ((t.length + j) + 1) = _
    unfold beginR
    have hg : (t ++ u).getD (t.length + j) 0 ∈ u := by
      rw [List.getD_eq_getElem?_getD, List.getElem?_append_right (by omega), List.getElem?_eq_getElem (by omega)]
      exact List.getElem_mem _
    have h1 := hu _ hg
    rw [if_neg (by rintro (h | h); exact h1.1 h; exact h1.2 h)]
    exact begin_at t u hu ht j (by omega)
theorem outT_nil : ∀ ls : List ByteArray, outT ls = [] ↔ ∀ s ∈ ls, s.data.toList = [] := by
  intro ls
  suffices h : ∀ (n : Nat) (ls : List ByteArray), ls.length = n → (outT ls = [] ↔ ∀ s ∈ ls, s.data.toList = []) from h _ ls rfl
  intro n
  induction n with
  | zero => intro ls hn; obtain rfl := List.length_eq_zero_iff.1 hn; simp [outT]
  | succ n ih =>
    intro ls hn
    have hne : ls ≠ [] := by rintro rfl; simp at hn
    obtain ⟨l, s, rfl⟩ : ∃ l s, ls = l ++ [s] := ⟨_, _, (List.dropLast_concat_getLast hne).symm⟩
    have := ih l (by simpa using hn)
    rw [outT_snoc]
    unfold outS
    split
    · rename_i h
      simp only [true_iff]
      intro x hx
      rcases List.mem_append.1 hx with hx | hx
      · exact this.1 h.1 x hx
      · obtain rfl := List.mem_singleton.1 hx; exact h.2
    · rename_i h
      refine ⟨fun e => by simp at e, fun h2 => absurd ⟨this.2 fun x hx => h2 x (by simp [hx]), h2 s (by simp)⟩ h⟩
theorem outS_ne (t : List UInt8) (ls : List ByteArray) (ht : t ≠ []) : ls.foldl outS t = t ++ (ls.map fun s => s.data.toList ++ [10]).flatten := by
  induction ls generalizing t with
  | nil => simp
  | cons s r ih =>
    rw [List.foldl_cons, show outS t s = t ++ s.data.toList ++ [10] by unfold outS; rw [if_neg (fun h => ht h.1)], ih _ (by simp)]
    simp
theorem outT_cut (l r : List ByteArray) (s : ByteArray) (hl : ∀ x ∈ l, x.data.toList = []) (hs : s.data.toList ≠ []) : outT (l ++ s :: r) = ((s :: r).map fun s => s.data.toList ++ [10]).flatten := by
  have h0 := (outT_nil l).2 hl
  unfold outT at h0 ⊢
  rw [List.foldl_append, h0, List.foldl_cons, show outS [] s = s.data.toList ++ [10] by unfold outS; rw [if_neg (fun h => hs h.2)]; rfl, outS_ne _ _ (by simp)]
  simp
theorem join_flat (x : List UInt8) (r : List (List UInt8)) : Lib.join (x :: r) [10] ++ [10] = ((x :: r).map fun s => s ++ [10]).flatten := by
  rw [Lib.join_cons]
  induction r generalizing x with
  | nil => simp [Lib.joinTail]
  | cons y r ih =>
    have := ih y
    simp only [Lib.joinTail, List.map_cons, List.flatten_cons, List.append_assoc] at this ⊢
    rw [List.singleton_append, this]
    simp
/-- the state of BooksBack's walk -/
def BS (w : World) (g : Nat) (wr : World) (t : List UInt8) (p md : Nat) : Prop := ∃ κ L, L.p = g ∧ St κ0 w κ L wr (bm t p md)
theorem BS.below {w wr w' : World} {g : Nat} {t : List UInt8} {p md : Nat} (h : BS w g wr t p md) (hb : Below wr.heap.size wr w') : BS w g w' t p md := by
  obtain ⟨κ, L, hp, hs⟩ := h
  exact ⟨κ, L, hp, hs.below hb⟩
theorem BS.out {w wr : World} {g : Nat} {t : List UInt8} {p md : Nat} (h : BS w g wr t p md) : Below w.heap.size w wr := by
  obtain ⟨κ, L, hp, hs⟩ := h
  exact hs.older
theorem bs_new (w : World) : Calls Try.prog 8 #[.slice none 0 0] w fun e w' => ∃ κ L, e = .returned (.tuple #[pt L.p, .int .i64 0]) ∧ St κ0 w κ L w' bm0 := by
  refine (new_walk [] none 0 w (fun x hx => absurd hx List.not_mem_nil) (by decide) (fun i hi => absurd hi (Nat.not_lt_zero _)) (Nat.le_refl _) (Nat.zero_le _) bm0 0 bm_new).mono ?_
  rintro e w' (⟨_, h⟩ | ⟨h, _⟩)
  · exact h
  · exact absurd rfl h
theorem bs_est {w w1 : World} {κ : Nat → Tag} {L : Lay} (h : St κ0 w κ L w1 bm0) : Calls Try.prog 12 #[pt L.p, .string bkN] w1 fun e w' => e = .returned (.tuple #[.int .i64 4, .int .i64 0]) ∧ BS w L.p w' [] 0 0 := by
  refine (establish_walk bkN w1 (by decide) h.1 4 0 bm_est).mono ?_
  rintro e w' ⟨rfl, κ', L', hp, hs⟩
  exact ⟨rfl, κ', L', hp, h.then hs⟩
theorem bs_put {w w1 : World} {g : Nat} {t : List UInt8} {md : Nat} (h : BS w g w1 t t.length md) (c : UInt8) (hc : 32 ≤ c.toNat ∧ c.toNat ≤ 126) (hcol : t.length - beginR t t.length < 200) (hl : t.length < 1048576) :
    Calls Try.prog 13 #[pt g, .int .i64 4, .int .i64 c.toNat] w1 fun e w' => e = .returned (.int .i64 0) ∧ BS w g w' (t ++ [c]) (t.length + 1) 2 := by
  obtain ⟨κ, L, rfl, hs⟩ := h
  refine (put_walk 4 c.toNat w1 hs.1 0 (bm_put t md c hc hcol hl)).mono ?_
  rintro e w' ⟨rfl, κ', L', hp, hs'⟩
  exact ⟨rfl, κ', L', hp, hs.then hs'⟩
theorem bs_nlw {w w1 : World} {g : Nat} {t : List UInt8} (h : BS w g w1 t t.length 2) (hl : t.length < 1048576) :
    Calls Try.prog 14 #[pt g, .int .i64 4] w1 fun e w' => e = .returned (.int .i64 0) ∧ BS w g w' (t ++ [10]) (t.length + 1) 2 := by
  obtain ⟨κ, L, rfl, hs⟩ := h
  refine (newline_walk 4 w1 hs.1 0 (bm_nlw t hl)).mono ?_
  rintro e w' ⟨rfl, κ', L', hp, hs'⟩
  exact ⟨rfl, κ', L', hp, hs.then hs'⟩
theorem bs_nl0 {w w1 : World} {g : Nat} (h : BS w g w1 [] 0 0) :
    Calls Try.prog 14 #[pt g, .int .i64 4] w1 fun e w' => e = .returned (.int .i64 22) ∧ BS w g w' [] 0 0 := by
  obtain ⟨κ, L, rfl, hs⟩ := h
  refine (newline_walk 4 w1 hs.1 22 bm_nl0).mono ?_
  rintro e w' ⟨rfl, κ', L', hp, hs'⟩
  exact ⟨rfl, κ', L', hp, hs.then hs'⟩
theorem bs_reset {w w1 : World} {g : Nat} {t : List UInt8} {p md : Nat} (h : BS w g w1 t p md) :
    Calls Try.prog 15 #[pt g, .int .i64 4] w1 fun e w' => e = .returned (.int .i64 0) ∧ BS w g w' t 0 0 := by
  obtain ⟨κ, L, rfl, hs⟩ := h
  refine (reset_walk 4 w1 hs.1 0 (bm_reset t p md)).mono ?_
  rintro e w' ⟨rfl, hs'⟩
  exact ⟨rfl, κ, L, rfl, hs.then hs'⟩
theorem bs_ended {w w1 : World} {g : Nat} {t : List UInt8} {i md : Nat} (h : BS w g w1 t i md) (hi : i < t.length) (h12 : (t.getD i 0).toNat ≠ 12) :
    Calls Try.prog 17 #[pt g, .int .i64 4, .int .i64 2] w1 fun e w' => e = .returned (.tuple #[.bool (decide ((t.getD i 0).toNat = 10)), .int .i64 0]) ∧ BS w g w' t i md := by
  obtain ⟨κ, L, rfl, hs⟩ := h
  refine (ended_walk 4 2 w1 hs.1 _ 0 (bm_ended t i md hi h12)).mono ?_
  rintro e w' ⟨rfl, hs'⟩
  exact ⟨rfl, κ, L, rfl, hs.below hs'.below⟩
theorem bs_nlr {w w1 : World} {g : Nat} {t : List UInt8} {i md : Nat} (h : BS w g w1 t i md) (hi : i < t.length) (hm : md ≠ 2) (h10 : (t.getD i 0).toNat = 10) :
    Calls Try.prog 14 #[pt g, .int .i64 4] w1 fun e w' => e = .returned (.int .i64 0) ∧ BS w g w' t (i + 1) md := by
  obtain ⟨κ, L, rfl, hs⟩ := h
  refine (newline_walk 4 w1 hs.1 0 (bm_nlr t i md hi hm h10)).mono ?_
  rintro e w' ⟨rfl, κ', L', hp, hs'⟩
  exact ⟨rfl, κ', L', hp, hs.then hs'⟩
theorem bs_get {w w1 : World} {g : Nat} {t : List UInt8} {i md : Nat} (h : BS w g w1 t i md) (hi : i < t.length) (h10 : (t.getD i 0).toNat ≠ 10) (h12 : (t.getD i 0).toNat ≠ 12) :
    Calls Try.prog 18 #[pt g, .int .i64 4] w1 fun e w' => e = .returned (.tuple #[.int .i64 (t.getD i 0).toNat, .int .i64 0]) ∧ BS w g w' t (i + 1) 1 := by
  obtain ⟨κ, L, rfl, hs⟩ := h
  refine (get_walk 4 w1 hs.1 _ 0 (bm_get t i md hi h10 h12)).mono ?_
  rintro e w' ⟨rfl, hs'⟩
  exact ⟨rfl, κ, L, rfl, hs.then hs'⟩
theorem bs_books {w w1 : World} {g : Nat} {t : List UInt8} {p md : Nat} (h : BS w g w1 t p md) :
    Calls Try.prog 16 #[pt g] w1 fun e w' => (∃ b cap S, e = .returned (.slice (some ⟨b, 0, none⟩) 4 cap) ∧ w'.cell? ⟨b, 10, none⟩ = some (.string S) ∧ S.data.toList = t) ∧ BS w g w' t p md := by
  obtain ⟨κ, L, rfl, hs⟩ := h
  refine (books_walk w1 hs.1).mono ?_
  rintro e w' ⟨⟨v, rfl, hv⟩, hb⟩
  refine ⟨?_, κ, L, rfl, hs.below hb⟩
  rcases hv.2 with h1 | ⟨b, cap, cur, hv2, hg, hc, _⟩
  · exact absurd h1.2 (by decide : ¬ (4 = 0))
  · subst hv2
    exact ⟨b, cap, _, rfl, (hv.cellAt 10 (by show 10 < 4 * 3; decide)).trans rfl, rfl⟩
/-- a slice of strings -/
def SAt (w : World) (a : Option Addr) (ls : List ByteArray) : Prop := ∀ i (hi : i < ls.length), ∃ g o, a = some ⟨g, o, none⟩ ∧ w.cell? ⟨g, o + i, none⟩ = some (.string (ls[i]'hi))
theorem SAt.below {w w' : World} {a : Option Addr} {ls : List ByteArray} (h : SAt w a ls) (hb : Below w.heap.size w w') : SAt w' a ls := fun i hi => by
  obtain ⟨g, o, ha, hc⟩ := h i hi
  exact ⟨g, o, ha, (hb.cell (World.block_lt_of_cell? w _ hc)).trans hc⟩
theorem str_emp2 (s : ByteArray) : s.toList.isEmpty = decide (s.size = 0) := str_emp s
theorem line_walk (x : ByteArray) (w : World) : Calls Try.prog 20 #[.string x] w fun e w' => e = .returned (.bool (!decide (x.size = 0))) ∧ w = w' := by
  rw [← str_emp2]
  go_enter Try.func20, Try.ntmps20
  go_wp2
  go_ret
  exact ⟨rfl, rfl⟩
/-- the first line with characters -/
def firstR (ls : List ByteArray) (r : Int) : Prop := (r = -1 ∧ ∀ s ∈ ls, s.size = 0) ∨ ∃ k, k < ls.length ∧ r = (k : Int) ∧ (∀ s ∈ ls.take k, s.size = 0) ∧ ∀ (h : k < ls.length), (ls[k]'h).size ≠ 0
theorem first_walk (ls : List ByteArray) (a : Option Addr) (cap : Nat) (w : World) (hlen : ls.length ≤ 100) (hA : SAt w a ls) :
    Calls Try.prog 19 #[.slice a ls.length cap, .func (.func 20) #[] #[]] w fun e w' => (∃ r : Int, e = .returned (.int .i64 r) ∧ firstR ls r) ∧ Below w.heap.size w w' := by
  have HA := Aside0.mk hA
  have HB0 := Aside0.mk (Below.refl w.heap.size w)
  clear hA
  go_enter Try.func19, Try.ntmps19
  go_wp2
  go_loopw [8] (fun i wr => ∃ k : Nat, k ≤ ls.length ∧ i = .int .i64 k ∧ Aside0 (Below w.heap.size w wr) ∧ Aside0 (∀ s ∈ ls.take k, s.size = 0)) (fun i _ => ls.length - (intOf i).toNat)
  case atStart => exact ⟨0, Nat.zero_le _, rfl, HB0, ⟨by simp⟩⟩
  case round =>
    obtain ⟨k, hk, rfl, HB, HK⟩ := hrel
    by_cases hlt : k < ls.length
    · obtain ⟨g, o, rfl, h0⟩ := (HA.out.below HB.out) k hlt
      have hsn : ls.take (k + 1) = ls.take k ++ [ls[k]] := List.take_succ_eq_append_getElem hlt
      have HSN := Aside0.mk hsn
      have hkk : ls[k]? = some ls[k] := List.getElem?_eq_getElem hlt
      have HKK := Aside0.mk hkk
      clear hsn hkk
      generalize ls[k] = x at *
      have HC := Aside0.mk (fun W => line_walk x W)
      cases hq : decide (x.size = 0) with
      | false =>
        rw [hq] at HC
        have hx : x.size ≠ 0 := of_decide_eq_false hq
        have HX : Aside0 (firstR ls k) := ⟨.inr ⟨k, hlt, rfl, HK.out, fun h => by rw [Option.some.inj ((List.getElem?_eq_getElem h).symm.trans HKK.out)]; exact hx⟩⟩
        clear hq hx
        go_wp2_with (go_at_call 20; refine (HC.out _).mono ?_; rintro e w' ⟨rfl, rfl⟩)
        go_ret
        exact ⟨⟨k, rfl, HX.out⟩, HB.out⟩
      | true =>
        rw [hq] at HC
        have hx : x.size = 0 := of_decide_eq_true hq
        have HX : Aside0 (∀ s ∈ ls.take (k + 1), s.size = 0) := ⟨by rw [HSN.out]; intro s hs; rcases List.mem_append.1 hs with hs | hs; exact HK.out s hs; obtain rfl := List.mem_singleton.1 hs; exact hx⟩
        clear hq hx
        go_wp2_with (go_at_call 20; refine (HC.out _).mono ?_; rintro e w' ⟨rfl, rfl⟩)
        go_roundw
        case rel => exact ⟨k + 1, by omega, by go_num, HB, HX⟩
        case measure => simp [intOf]; omega
    · obtain rfl : k = ls.length := by omega
      have HX : Aside0 (firstR ls (-1)) := ⟨.inl ⟨rfl, by have := HK.out; rwa [List.take_length] at this⟩⟩
      go_wp2
      go_ret
      exact ⟨⟨-1, rfl, HX.out⟩, HB.out⟩
theorem take_byte (x : ByteArray) (j : Nat) (h : j < x.size) : x.data.toList.take (j + 1) = x.data.toList.take j ++ [x[j]] := by
  have h1 : j < x.data.toList.length := by simpa using h
  rw [List.take_succ_eq_append_getElem h1]
  rfl
theorem getD_byte (x : ByteArray) (j : Nat) (h : j < x.size) : x.data.toList.getD j 0 = x[j] := by
  have h1 : j < x.data.toList.length := by simpa using h
  rw [List.getD_eq_getElem?_getD, List.getElem?_eq_getElem h1]
  rfl
theorem back_walk (ls : List ByteArray) (a : Option Addr) (cap : Nat) (w : World) (hA : SAt w a ls) (hcap : ls.length ≤ cap) (hcm : cap ≤ 9223372036854775807) (hz : ∀ s ∈ ls, s.size ≤ 9223372036854775807) :
    Calls Try.prog 4 #[.slice a ls.length cap] w fun e w' => e = .returned (.bool true) ∧ Below w.heap.size w w' := by
  have HAW := Aside0.mk (awake_walk w)
  have HA := Aside0.mk hA
  have HZ := Aside0.mk hz
  clear hA hz
  go_enter Try.func4, Try.ntmps4
  go_wp2_with fail
  refine HAW.out.mono ?_
  rintro e w1 ⟨rfl, hb1⟩
  have HB1 := Aside0.mk hb1
  have HN := Aside0.mk (bs_new w1)
  clear hb1 HAW
  go_wp2_with fail
  refine HN.out.mono ?_
  rintro e w2 ⟨κ, L, rfl, h2⟩
  have HE := Aside0.mk (bs_est h2)
  clear h2 HN
  unfold pt at *
  unfold bkN at HE
  generalize L.p = g at *
  go_wp2_with fail
  refine HE.out.mono ?_
  rintro e w3 ⟨rfl, hs⟩
  have HS := Aside0.mk hs
  clear hs HE
  by_cases h12 : 12 < ls.length
  · go_wp2
    go_ret
    exact ⟨rfl, below_step HB1.out HS.out.out⟩
  have hl12 : ls.length ≤ 12 := by omega
  clear h12
  go_wp2
  go_loop [44] (fun i => ∃ k : Nat, k ≤ ls.length ∧ i = .int .i64 k ∧ Aside0 (∀ s ∈ ls.take k, lineOk s)) (fun i => ls.length - (intOf i).toNat)
  case atStart => exact ⟨0, Nat.zero_le _, rfl, ⟨by simp⟩⟩
  case round =>
    obtain ⟨k, hk, rfl, HK⟩ := hrel
    by_cases hlt : k < ls.length
    · obtain ⟨q, o, rfl, h0⟩ := ((HA.out.below HB1.out).below HS.out.out) k hlt
      have hsn : ls.take (k + 1) = ls.take k ++ [ls[k]] := List.take_succ_eq_append_getElem hlt
      have HSN := Aside0.mk hsn
      have hx0 := HZ.out _ (List.getElem_mem hlt)
      clear hsn
      generalize ls[k] = x at *
      by_cases hbig : 200 < x.size
      · go_wp2
        go_ret
        exact ⟨rfl, below_step HB1.out HS.out.out⟩
      · have hx1 : x.size ≤ 200 := by omega
        clear hbig
        go_wp2
        go_loop [53] (fun i => ∃ j : Nat, j ≤ x.size ∧ i = .int .i64 j ∧ Aside0 (∀ c ∈ x.data.toList.take j, 32 ≤ c.toNat ∧ c.toNat ≤ 126)) (fun i => x.size - (intOf i).toNat)
        case atStart => exact ⟨0, Nat.zero_le _, rfl, ⟨by simp⟩⟩
        case round =>
          obtain ⟨j, hj, rfl, HJ⟩ := hrel
          by_cases hjl : j < x.size
          · have hsj : x.data.toList.take (j + 1) = x.data.toList.take j ++ [x[j]] := take_byte x j hjl
            have HSJ := Aside0.mk hsj
            clear hsj
            by_cases h1 : x[j].toNat < 32
            · have h1' : (x[j].toNat : Int) < 32 := by omega
              go_wp2
              go_ret
              exact ⟨rfl, below_step HB1.out HS.out.out⟩
            · have h1' : ¬ (x[j].toNat : Int) < 32 := by omega
              by_cases h2 : 126 < x[j].toNat
              · have h2' : (126 : Int) < x[j].toNat := by omega
                go_wp2
                go_ret
                exact ⟨rfl, below_step HB1.out HS.out.out⟩
              · have h2' : ¬ (126 : Int) < x[j].toNat := by omega
                have HJ2 : Aside0 (∀ c ∈ x.data.toList.take (j + 1), 32 ≤ c.toNat ∧ c.toNat ≤ 126) := ⟨by
                  rw [HSJ.out]; intro c hc
                  rcases List.mem_append.1 hc with hc | hc
                  · exact HJ.out c hc
                  · obtain rfl := List.mem_singleton.1 hc; omega⟩
                clear h1 h2
                go_wp2
                go_round
                case rel => exact ⟨j + 1, by omega, by go_num, HJ2⟩
                case measure => simp [intOf]; omega
          · obtain rfl : j = x.size := by omega
            have HX : Aside0 (∀ s ∈ ls.take (k + 1), lineOk s) := ⟨by
              rw [HSN.out]; intro s hs
              rcases List.mem_append.1 hs with hs | hs
              · exact HK.out s hs
              · obtain rfl := List.mem_singleton.1 hs
                exact ⟨hx1, by have := HJ.out; rwa [List.take_of_length_le (by simp)] at this⟩⟩
            go_wp2
            go_round
            case rel => exact ⟨k + 1, by omega, by go_num, HX⟩
            case measure => simp [intOf]; omega
    · obtain rfl : k = ls.length := by omega
      have HK2 : Aside0 (∀ s ∈ ls, lineOk s) := ⟨by have := HK.out; rwa [List.take_length] at this⟩
      have HA2 : Aside0 (SAt w1 a ls) := ⟨HA.out.below HB1.out⟩
      clear HK HA
      go_wp2
      go_loopw [70] (fun i wr => ∃ (k md : Nat), k ≤ ls.length ∧ i = .int .i64 k ∧ Aside0 (BS w1 g wr (outT (ls.take k)) (outT (ls.take k)).length md) ∧ Aside0 ((md = 2 ∧ outT (ls.take k) ≠ []) ∨ (md = 0 ∧ outT (ls.take k) = []))) (fun i _ => ls.length - (intOf i).toNat)
      case atStart => exact ⟨0, 0, Nat.zero_le _, rfl, HS, ⟨.inr ⟨rfl, rfl⟩⟩⟩
      case round =>
        obtain ⟨k, md, hk, rfl, HT, HM⟩ := hrel
        have HTO := Aside0.mk (outT_ok k (ls.take k) (by rw [List.length_take]; omega) fun s hs => HK2.out s (List.mem_of_mem_take hs))
        by_cases hlt : k < ls.length
        · obtain ⟨q, o, rfl, h0⟩ := (HA2.out.below HT.out.out) k hlt
          have hsn : outT (ls.take (k + 1)) = outS (outT (ls.take k)) ls[k] := by rw [List.take_succ_eq_append_getElem hlt, outT_snoc]
          have HSN := Aside0.mk hsn
          have hx0 := HZ.out _ (List.getElem_mem hlt)
          have HX := Aside0.mk (HK2.out _ (List.getElem_mem hlt))
          clear hsn
          generalize ls[k] = x at *
          generalize hT : outT (ls.take k) = T at *
          clear hT
          have hTl : T.length ≤ 2412 := by have := HTO.out.len; omega
          go_wp2
          go_loopw [76] (fun i wr => ∃ (j md' : Nat), j ≤ x.size ∧ i = .int .i64 j ∧ Aside0 (BS w1 g wr (T ++ x.data.toList.take j) (T ++ x.data.toList.take j).length md') ∧ Aside0 ((0 < j ∧ md' = 2) ∨ (j = 0 ∧ md' = md))) (fun i _ => x.size - (intOf i).toNat)
          case atStart => exact ⟨0, md, Nat.zero_le _, rfl, ⟨by simpa using HT.out⟩, ⟨.inr ⟨rfl, rfl⟩⟩⟩
          case round =>
            obtain ⟨j, md', hj, rfl, HJ, HJM⟩ := hrel
            by_cases hjl : j < x.size
            · have hcm : x[j] ∈ x.data.toList := by
                rw [← getD_byte x j hjl, List.getD_eq_getElem?_getD, List.getElem?_eq_getElem (by simpa using hjl)]; exact List.getElem_mem _
              have hc := HX.out.2 _ hcm
              have htl : (x.data.toList.take j).length = j := by rw [List.length_take]; simp; omega
              have hbeg := begin_at T (x.data.toList.take j) (fun c hc => by have := HX.out.2 c (List.mem_of_mem_take hc); omega) HTO.out.last j (by omega)
              have hx200 := HX.out.1
              have HP := Aside0.mk (bs_put HJ.out x[j] hc (by rw [List.length_append, htl, hbeg]; omega) (by rw [List.length_append, htl]; omega))
              rw [List.append_assoc, ← take_byte x j hjl] at HP
              have hl1 : (T ++ x.data.toList.take j).length + 1 = (T ++ x.data.toList.take (j + 1)).length := by rw [take_byte x j hjl, List.length_append, List.length_append, List.length_append]; rfl
              rw [hl1] at HP
              clear hcm hbeg hl1 htl
              unfold pt at HP
              go_wp2_with fail
              refine HP.out.mono ?_
              rintro e w4 ⟨rfl, hs4⟩
              have HJ2 := Aside0.mk hs4
              clear hs4 HP
              go_wp2
              go_roundw
              case rel => exact ⟨j + 1, 2, by omega, by go_num, HJ2, ⟨.inl ⟨by omega, rfl⟩⟩⟩
              case measure => simp [intOf]; omega
            · obtain rfl : j = x.size := by omega
              have hxl : x.data.toList.length = x.size := by simp
              rw [List.take_of_length_le (by omega)] at HJ
              have hx200 := HX.out.1
              by_cases hm2 : md' = 2
              · subst hm2
                have HP := Aside0.mk (bs_nlw HJ.out (by rw [List.length_append, hxl]; omega))
                have HO : Aside0 (outT (ls.take (k + 1)) = T ++ x.data.toList ++ [10]) := ⟨by
                  rw [HSN.out]; unfold outS
                  rw [if_neg]
                  rintro ⟨e1, e2⟩
                  rcases HJM.out with ⟨h1, _⟩ | ⟨_, h2⟩
                  · rw [e2] at hxl; simp at hxl; omega
                  · rcases HM.out with ⟨_, h3⟩ | ⟨h3, _⟩
                    · exact h3 e1
                    · omega⟩
                have hl1 : (T ++ x.data.toList).length + 1 = (T ++ x.data.toList ++ [10]).length := by rw [List.length_append (bs := [10])]; rfl
                rw [hl1, ← HO.out] at HP
                have HNE : Aside0 (outT (ls.take (k + 1)) ≠ []) := ⟨by rw [HO.out]; simp⟩
                clear hl1
                unfold pt at HP
                go_wp2_with fail
                refine HP.out.mono ?_
                rintro e w4 ⟨rfl, hs4⟩
                have HJ2 := Aside0.mk hs4
                clear hs4 HP
                go_wp2
                go_roundw
                case rel => exact ⟨k + 1, 2, by omega, by go_num, HJ2, ⟨.inl ⟨rfl, HNE.out⟩⟩⟩
                case measure => simp [intOf]; omega
              · obtain ⟨hx00, rfl⟩ : x.size = 0 ∧ md' = md := by
                  rcases HJM.out with ⟨_, h2⟩ | h2
                  · exact absurd h2 hm2
                  · exact h2
                obtain ⟨rfl, rfl⟩ : md' = 0 ∧ T = [] := by
                  rcases HM.out with ⟨h2, _⟩ | h2
                  · exact absurd h2 hm2
                  · exact h2
                have hxe : x.data.toList = [] := List.length_eq_zero_iff.1 (by omega)
                rw [hxe] at HJ
                have HO : Aside0 (outT (ls.take (k + 1)) = []) := ⟨by rw [HSN.out]; unfold outS; rw [if_pos ⟨rfl, hxe⟩]⟩
                have HP := Aside0.mk (bs_nl0 HJ.out)
                clear hxe hxl
                unfold pt at HP
                go_wp2_with fail
                refine HP.out.mono ?_
                rintro e w4 ⟨rfl, hs4⟩
                have HJ2 : Aside0 (BS w1 g w4 (outT (ls.take (k + 1))) (outT (ls.take (k + 1))).length 0) := ⟨by rw [HO.out]; exact hs4⟩
                clear hs4 HP
                go_wp2
                go_roundw
                case rel => exact ⟨k + 1, 0, by omega, by go_num, HJ2, ⟨.inr ⟨rfl, HO.out⟩⟩⟩
                case measure => simp [intOf]; omega
        · obtain rfl : k = ls.length := by omega
          rw [List.take_length] at HT HM HTO
          have HR := Aside0.mk (bs_reset HT.out)
          unfold pt at HR
          go_wp2_with fail
          refine HR.out.mono ?_
          rintro e w4 ⟨rfl, hs4⟩
          have HB := Aside0.mk (bs_books hs4)
          clear hs4 HR HT
          unfold pt at HB
          go_wp2_with fail
          refine HB.out.mono ?_
          rintro e w5 ⟨⟨b, cap5, S, rfl, z10, hS⟩, hs5⟩
          have HSS := Aside0.mk hS
          have H5 := Aside0.mk hs5
          clear hS hs5 HB HM
          have hSl : S.size = (outT ls).length := by rw [← HSS.out]; simp
          have hlen := HTO.out.len
          have hS1 : S.size ≤ 9223372036854775807 := by omega
          have HC12 : Aside0 (∀ j (h : j < S.size), S[j].toNat ≠ 12) := ⟨fun j h => by
            refine HTO.out.chars _ ?_
            rw [← HSS.out, ← getD_byte S j h, List.getD_eq_getElem?_getD, List.getElem?_eq_getElem (by simpa using h)]; exact List.getElem_mem _⟩
          have HSL := Aside0.mk hSl
          clear hSl hlen
          rw [← HSS.out] at H5
          go_wp2
          go_loopw [113] (fun i wr => ∃ (n md : Nat), n ≤ S.size ∧ i = .int .i64 n ∧ md ≠ 2 ∧ Aside0 (BS w1 g wr S.data.toList n md)) (fun i _ => S.size - (intOf i).toNat)
          case atStart => exact ⟨0, 0, Nat.zero_le _, rfl, by decide, H5⟩
          case round =>
            obtain ⟨n, md, hn, rfl, hmd, HN⟩ := hrel
            by_cases hlt : n < S.size
            · have hi : n < S.data.toList.length := by simpa using hlt
              have hgd := getD_byte S n hlt
              have h12 := HC12.out n hlt
              have HE := Aside0.mk (bs_ended HN.out hi (by rw [hgd]; exact h12))
              rw [hgd] at HE
              unfold pt at HE
              by_cases h10 : S[n].toNat = 10
              · rw [decide_eq_true h10] at HE
                have h10' : (S[n].toNat : Int) = 10 := by omega
                have HNL := Aside0.mk (fun (w' : World) (h : BS w1 g w' S.data.toList n md) => bs_nlr h hi hmd (by rw [hgd]; exact h10))
                unfold pt at HNL
                clear hgd h12 h10
                go_wp2_with fail
                refine HE.out.mono ?_
                rintro e w6 ⟨rfl, hs6⟩
                have HX := Aside0.mk (HNL.out w6 hs6)
                clear hs6 HE HNL
                go_wp2_with fail
                refine HX.out.mono ?_
                rintro e w7 ⟨rfl, hs7⟩
                have H7 := Aside0.mk hs7
                clear hs7 HX
                go_wp2
                go_roundw
                case rel => exact ⟨n + 1, md, by omega, by go_num, hmd, H7⟩
                case measure => simp [intOf]; omega
              · rw [decide_eq_false h10] at HE
                have h10' : ((S[n].toNat : Int) == 10) = false := by rw [beq_eq_false_iff_ne]; omega
                have hwr : wrap64 (S[n].toNat : Int) = (S[n].toNat : Int) := by have := S[n].toNat_lt; unfold wrap64; omega
                have HNL := Aside0.mk (fun (w' : World) (h : BS w1 g w' S.data.toList n md) => bs_get h hi (by rw [hgd]; exact h10) (by rw [hgd]; exact h12))
                rw [hgd] at HNL
                unfold pt at HNL
                clear hgd h12 h10
                go_wp2_with fail
                refine HE.out.mono ?_
                rintro e w6 ⟨rfl, hs6⟩
                have HX := Aside0.mk (HNL.out w6 hs6)
                clear hs6 HE HNL
                go_wp2_with fail
                refine HX.out.mono ?_
                rintro e w7 ⟨rfl, hs7⟩
                have H7 := Aside0.mk hs7
                clear hs7 HX
                go_wp2
                go_roundw
                case rel => exact ⟨n + 1, 1, by omega, by go_num, by decide, H7⟩
                case measure => simp [intOf]; omega
            · have HF := Aside0.mk (first_walk ls a cap wr (by omega) (HA2.out.below HN.out.out))
              have HN2 := Aside0.mk HN.out.out
              clear HN
              go_wp2_with fail
              refine HF.out.mono ?_
              rintro e w6 ⟨⟨r, rfl, hr⟩, hb6⟩
              have HB6 := Aside0.mk (below_step HN2.out hb6)
              clear hb6 HF HN2
              rcases hr with ⟨rfl, he⟩ | ⟨k, hk1, rfl, hk2, hk3⟩
              · have hSe : S = ⟨#[]⟩ := by
                  have h1 : outT ls = [] := (outT_nil ls).2 fun s hs => List.length_eq_zero_iff.1 (by have := he s hs; simpa using this)
                  have h2 : S.data.toList = [] := HSS.out.trans h1
                  exact str_inj (by rw [ByteArray.toList_eq, ByteArray.toList_eq, h2])
                subst hSe
                clear he
                go_wp2
                go_ret
                exact ⟨by first | rfl | simp, below_step HB1.out HB6.out⟩
              · obtain ⟨q, o, rfl, _⟩ := HA2.out k hk1
                have hdl : (ls.drop k).length = ls.length - k := List.length_drop
                obtain ⟨J, hJ⟩ : ∃ J : ByteArray, (⟨(Lib.join ((ls.drop k).map (·.data.toList)) [10]).toArray⟩ : ByteArray) = J := ⟨_, rfl⟩
                have hSJ : outT ls = Lib.join ((ls.drop k).map (·.data.toList)) [10] ++ [10] := by
                  have h1 : ls = ls.take k ++ ls[k] :: ls.drop (k + 1) := by rw [← List.drop_eq_getElem_cons hk1, List.take_append_drop]
                  have h2 : ls.drop k = ls[k] :: ls.drop (k + 1) := List.drop_eq_getElem_cons hk1
                  rw [h2, List.map_cons, join_flat]
                  have h3 := outT_cut (ls.take k) (ls.drop (k + 1)) ls[k] (fun s hs => List.length_eq_zero_iff.1 (by have := hk2 s hs; simpa using this)) (fun e => hk3 hk1 (by have := congrArg List.length e; simpa using this))
                  rw [← h1] at h3
                  rw [h3, List.map_cons, List.map_cons, List.map_map]
                  rfl
                have hSe : S = J ++ ⟨#[10]⟩ := by
                  apply str_inj
                  rw [ByteArray.toList_eq, ByteArray.toList_eq, HSS.out, hSJ, ← hJ]
                  simp
                have hjl : (Lib.join ((ls.drop k).map (·.data.toList)) (⟨#[10]⟩ : ByteArray).data.toList).length ≤ 140737488355328 := by
                  have h1 := congrArg List.length hSJ
                  rw [List.length_append] at h1
                  have h2 := HTO.out.len
                  show (Lib.join ((ls.drop k).map (·.data.toList)) [10]).length ≤ _
                  omega
                have HJ := Aside0.mk (fun (w' : World) (hb : Below w1.heap.size w1 w') => Try.strings_Join q (o + k) (cap - k) (ls.drop k) ⟨#[10]⟩ w' (fun j x hx => by
                  have hj : k + j < ls.length := by have := (List.getElem?_eq_some_iff.1 hx).1; rw [hdl] at this; omega
                  obtain ⟨q', o', he, hc⟩ := (HA2.out.below hb) (k + j) hj
                  injection he with he
                  injection he with he1 he2
                  subst he1 he2
                  rw [List.getElem?_drop, List.getElem?_eq_getElem hj] at hx
                  rw [Nat.add_assoc, hc, ← Option.some.inj hx]) (by
                  obtain ⟨q', o', he, hc⟩ := (HA2.out.below hb) k hk1
                  injection he with he
                  injection he with he1 he2
                  subst he1 he2
                  exact World.block_lt_of_cell? _ _ hc) (by rw [hdl]; omega) (by rw [hdl]; omega) hjl)
                rw [hdl, show (⟨#[10]⟩ : ByteArray).data.toList = [10] from rfl, hJ] at HJ
                clear hJ hjl hSJ hdl hk2 hk3
                subst hSe
                have hJz : ¬ 9223372036854775807 < J.size + 1 := by
                  have : (J ++ (⟨#[10]⟩ : ByteArray)).size = J.size + 1 := by simp; rfl
                  omega
                clear HSS HSL HC12 HTO
                go_wp2_with fail
                refine (HJ.out _ HB6.out).mono ?_
                rintro e w7 ⟨rfl, hb7⟩
                have HB7 := Aside0.mk (below_step HB6.out hb7)
                clear hb7 HJ
                go_wp2
                go_ret
                exact ⟨by first | rfl | simp, below_step HB1.out HB7.out⟩
end Go.Proofs.Ytonmdifmlpfcpaa.PB
