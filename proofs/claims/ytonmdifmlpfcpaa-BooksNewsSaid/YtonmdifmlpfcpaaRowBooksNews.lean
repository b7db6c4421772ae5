/- For every slice of books BooksNews returns true and its argument reads as it did. -/
import Derived.Test.YtonmdifmlpfcpaaRows
import Derived.Test.YtonmdifmlpfcpaaNwH
import Derived.WalkKit
import Derived.ProofKit
import Derived.OpenShut
import Derived.SliceStrings
import Derived.Deep.Slices
import Derived.Deep.Strs
import Derived.Carry
import Derived.ChangeOld
import Derived.Below
import Derived.SizedLaws
namespace Go.Proofs.Ytonmdifmlpfcpaa.booksNews
open Go.ChangeShapes Go.WideShapes Go.ChangeAt Go.RowKit Go.Deep
set_option linter.unusedVariables false
theorem own : ownKnob Try.prog.godebug = none := by kernel_rfl
theorem laidOut : laidOutB Try.prog = true := by kernel_rfl
section
variable {H : Type} {enc : TypeId × Value → H} {W : World} {base : Nat} {spare : Nat → Bool} {held : Bool}
theorem cellsBk : Try.prog.cellsOf 26 = 3 := by kernel_rfl
theorem cellsSt : Try.prog.cellsOf 9 = 1 := by kernel_rfl
theorem cellsBo : Try.prog.cellsOf 4 = 1 := by kernel_rfl
set_option maxRecDepth 100000 in
/-- one book, read -/
theorem book_of {n : Nat} {cs : List Value} {y : DataW H × List MemPlace} (h : DataW.trod enc Try.prog W base spare held n 26 cs = some y) : ∃ x : PB.ABk, cs = [.string x.name, .string x.text, .bool x.write] ∧ x.name.size ≤ maxLen ∧ x.text.size ≤ maxLen := by
  obtain ⟨y0, y1, y2, k, _, hl, h0, h1, h2⟩ := Go.Deep.trod_struct3 Try.underlying26 h
  rw [cellsBk] at hl
  rw [cellsSt] at h0 h1
  rw [cellsBo] at h2
  match cs, hl with
  | [c0, c1, c2], _ =>
    obtain ⟨s0, e0, _, w0⟩ := DataW.trod_string Try.underlying9 (show DataW.trod enc Try.prog W base spare held k 9 [c0] = some y0 from h0)
    obtain ⟨s1, e1, _, w1⟩ := DataW.trod_string Try.underlying9 (show DataW.trod enc Try.prog W base spare held k 9 [c1] = some y1 from h1)
    obtain ⟨b, e2, _⟩ := DataW.trod_bool Try.underlying4 (show DataW.trod enc Try.prog W base spare held k 4 [c2] = some y2 from h2)
    simp at e0 e1 e2
    exact ⟨⟨s0, s1, b⟩, by rw [e0, e1, e2], w0, w1⟩
set_option maxRecDepth 100000 in
theorem open_books {fuel : Nat} {cs : List Value} {x : DataW H × List MemPlace} (h : DataW.trod enc Try.prog W base spare held fuel 22 cs = some x) :
    (cs = [.slice none 0 0]) ∨ ∃ (a : Addr) (cap : Nat) (bs : List PB.ABk), cs = [.slice (some a) bs.length cap] ∧ bs.length ≤ cap ∧ cap ≤ maxLen ∧ PB.AAt W (some a) bs ∧ ∀ x ∈ bs, x.name.size ≤ maxLen ∧ x.text.size ≤ maxLen := by
  rcases Go.Deep.open_slice Try.underlying22 h with ⟨h0, _⟩ | ⟨a, len, cap, m, n, D, Pl, rfl, hb, hl, hm, hmm, _, hx⟩
  · exact .inl h0
  right
  have hlm : len ≤ m := by rw [hmm]; split <;> omega
  have each : ∀ i, i < len → ∃ x : PB.ABk, (W.cell? (a.add (i * 3)) = some (.string x.name) ∧ W.cell? (a.add (i * 3 + 1)) = some (.string x.text) ∧ W.cell? (a.add (i * 3 + 2)) = some (.bool x.write)) ∧ x.name.size ≤ maxLen ∧ x.text.size ≤ maxLen := by
    intro i hi
    obtain ⟨cs', h1, h2⟩ := hx i (by omega)
    rw [cellsBk] at h1
    obtain ⟨_, _, hcell⟩ := World.cells?_some h1
    obtain ⟨x, rfl, w0, w1⟩ := book_of h2
    have e0 := hcell 0 (by omega)
    have e1 := hcell 1 (by omega)
    have e2 := hcell 2 (by omega)
    rw [add_add] at e0 e1 e2
    exact ⟨x, ⟨by simpa using e0, by simpa using e1, by simpa using e2⟩, w0, w1⟩
  have key : ∀ n, n ≤ len → ∃ bs : List PB.ABk, bs.length = n ∧ (∀ i (hi : i < bs.length), W.cell? (a.add (i * 3)) = some (.string (bs[i]'hi).name) ∧ W.cell? (a.add (i * 3 + 1)) = some (.string (bs[i]'hi).text) ∧ W.cell? (a.add (i * 3 + 2)) = some (.bool (bs[i]'hi).write)) ∧ ∀ x ∈ bs, x.name.size ≤ maxLen ∧ x.text.size ≤ maxLen := by
    intro n
    induction n with
    | zero => exact fun _ => ⟨[], rfl, fun i hi => absurd hi (Nat.not_lt_zero _), fun x hx => absurd hx List.not_mem_nil⟩
    | succ n ih =>
      intro hn
      obtain ⟨bs, hl, hc, hw⟩ := ih (by omega)
      obtain ⟨x, hx, hs⟩ := each n (by omega)
      refine ⟨bs ++ [x], by rw [List.length_append, hl]; rfl, fun i hi => ?_, fun y hy => ?_⟩
      · rcases Nat.lt_or_ge i bs.length with h1 | h1
        · rw [List.getElem_append_left h1]; exact hc i h1
        · have : i = bs.length := by rw [List.length_append, List.length_singleton] at hi; omega
          subst this
          rw [List.getElem_append_right (Nat.le_refl _)]
          simp only [Nat.sub_self, List.getElem_cons_zero]
          rw [hl]; exact hx
      · rcases List.mem_append.1 hy with hy | hy
        · exact hw y hy
        · obtain rfl := List.mem_singleton.1 hy; exact hs
  obtain ⟨bs, rfl, hc, hw⟩ := key len (Nat.le_refl _)
  refine ⟨a, cap, bs, rfl, hl, hm, fun i hi => ?_, hw⟩
  obtain ⟨h0, h1, h2⟩ := hc i hi
  obtain ⟨b, off, spot⟩ := a
  have hspot : spot = none := by
    have := World.cell?_spot (hc 0 (by omega)).1
    simpa [Addr.add] using this
  subst hspot
  rw [add_plain] at h0 h1 h2
  exact ⟨b, off, rfl, h0, h1, h2⟩
end
set_option maxRecDepth 100000 in
theorem lifted (os : Os) (started : os.Started) (H : Type) (enc : TypeId × Value → H) :
    ReturnsInHanded {} Try.checked os 3 .any (Rows.booksNewsSpec.pre6 enc Try.prog Try.f3 Rows.booksNewsRow.domain false) (Rows.booksNewsSpec.post enc Try.prog Try.f3 false true false false) := by
  refine returnsInHanded_of_change_sized (C := Try.checked) own started (by kernel_rfl) Try.func3
    (ChangeSpec.witness6 (enc := enc) (C := Try.checked) false ⟨#[], #[.slice none 0 0], []⟩ 8 (by kernel_rfl) (by kernel_rfl) (by kernel_rfl) (by kernel_rfl)) ?_
  intro W base args ds gs before hval0 hW _ _ _
  have hval : ∀ (j : Nat) t v, Try.f3.params[j]? = some t → args[j]? = some v → Value.okWide Try.prog W .any base t v := hval0
  have hW' := hW
  obtain ⟨p, q, hA0, hV, rfl, _, _⟩ := hW
  have hA : DataW.TrodAll enc Try.prog W 0 (fun _ => true) true Try.f3.params.toList args.toList ds p := hA0
  rw [Try.params3] at hA hval
  obtain ⟨v0, d0, rfl, rfl, h0⟩ := trodAll_one hA
  obtain ⟨rfl, rfl⟩ := trodVars_none hV
  obtain ⟨a0, len, cap, rfl⟩ := okWide_slice Try.underlying22 (hval 0 22 v0 rfl rfl)
  have h0k := h0
  obtain ⟨fuel, hf⟩ := h0
  clear hA0 hval0
  simp only [List.append_nil] at hW'
  have hlt : ∀ x ∈ p, x.block < W.heap.size := fun x hx => by simpa using hW'.lt x hx
  have fin : ∀ (W' : World), Below W.heap.size W W' →
      Rows.booksNewsSpec.post enc Try.checked.prog Try.f3 false true false false W #[.slice a0 len cap] (.bool true) W' := by
    intro W' hnx
    exact ⟨_, _, _, [] ++ [], p, [], hW', trodAll_mk1 (shut_bool Try.underlying4 true), trodAll_mk1 (Below.trod laidOut (by kernel_rfl) (of_decide_eq_true (by kernel_rfl)) h0k hnx hlt), rfl, hnx.frame _, fun h => by cases h⟩
  have go : ∀ (bs : List PB.ABk), bs.length = len → PB.AAt W a0 bs → (a0 = none → bs = [] ∧ cap = 0) → len ≤ cap → cap ≤ maxLen → (∀ x ∈ bs, x.name.size ≤ maxLen ∧ x.text.size ≤ maxLen) →
      Calls Try.checked.prog 3 #[.slice a0 len cap] W fun e W' => ∃ v, e = Ending.returned v ∧ Rows.booksNewsSpec.post enc Try.checked.prog Try.f3 false true false false W #[.slice a0 len cap] v W' := by
    rintro bs rfl hA ha hc hm hs
    have hml : maxLen ≤ 9223372036854775807 := by decide
    refine (PB.news_walk bs a0 cap W hA ha hc hm (fun x h => ⟨Nat.le_trans (hs x h).1 hml, Nat.le_trans (hs x h).2 hml⟩)).mono fun e W' ⟨he, hnx⟩ => ?_
    subst he
    exact ⟨_, rfl, fin W' hnx⟩
  rcases open_books hf with hcs | ⟨a, cap', bs, hcs, hl, hm, hA2, hs⟩
  · simp [Value.cells] at hcs
    obtain ⟨rfl, rfl, rfl⟩ := hcs
    exact go [] rfl (fun i hi => absurd hi (Nat.not_lt_zero _)) (fun _ => ⟨rfl, rfl⟩) (Nat.le_refl _) (Nat.zero_le _) (fun x h => absurd h List.not_mem_nil)
  · simp [Value.cells] at hcs
    obtain ⟨rfl, rfl, rfl⟩ := hcs
    exact go bs rfl hA2 (fun h => by cases h) hl hm hs
theorem over : Rows.booksNewsRow.holds Try.pinned (OpenSpec.ofChange Rows.booksNewsSpec) :=
  OpenClaim.holds_of_wide 3 Try.f3 rfl rfl rfl rfl rfl rfl rfl ⟨rfl, rfl, rfl, rfl, rfl⟩ rfl rfl rfl rfl rfl (by kernel_rfl) Try.func3 (by kernel_rfl)
    (of_decide_eq_true (by kernel_rfl)) (by unfold Func.isWrapper; first | (rw [if_pos (by decide +kernel)]; kernel_rfl) | (rw [if_neg (by decide +kernel)]; exact ⟨rfl, rfl⟩))
    (fun os started H enc _ => lifted os started H enc)
theorem proved : Rows.BooksNewsSaid := over
end Go.Proofs.Ytonmdifmlpfcpaa.booksNews
namespace Go.Proofs.Ytonmdifmlpfcpaa
/-- The row, under a short name, for the claim. -/
theorem booksNews_holds : Rows.BooksNewsSaid := booksNews.proved
end Go.Proofs.Ytonmdifmlpfcpaa
