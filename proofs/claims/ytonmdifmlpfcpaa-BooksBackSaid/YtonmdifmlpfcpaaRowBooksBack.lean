/- BooksBack returns true for any lines: what is written to an empty book is read behind Reset as the same, line by line; no condition, no hypothesis. -/
import Derived.Test.YtonmdifmlpfcpaaRows
import Derived.Test.YtonmdifmlpfcpaaBmE
import Derived.WalkKit
import Derived.ProofKit
import Derived.OpenShut
import Derived.SliceStrings
import Derived.Carry
import Derived.ChangeOld
import Derived.Below
import Derived.SizedLaws
namespace Go.Proofs.Ytonmdifmlpfcpaa.booksBack
open Go.ChangeShapes Go.WideShapes Go.ChangeAt Go.RowKit
set_option linter.unusedVariables false
theorem own : ownKnob Try.prog.godebug = none := by kernel_rfl
theorem laidOut : laidOutB Try.prog = true := by kernel_rfl
theorem cellsE : Try.prog.cellsOf 9 = 1 := by kernel_rfl
set_option maxRecDepth 100000 in
theorem lifted (os : Os) (started : os.Started) (H : Type) (enc : TypeId × Value → H) :
    ReturnsInHanded {} Try.checked os 4 .any (Rows.booksBackSpec.pre6 enc Try.prog Try.f4 Rows.booksBackRow.domain false) (Rows.booksBackSpec.post enc Try.prog Try.f4 false true false false) := by
  refine returnsInHanded_of_change_sized (C := Try.checked) own started (by kernel_rfl) Try.func4
    (ChangeSpec.witness6 (enc := enc) (C := Try.checked) false ⟨#[], #[.slice none 0 0], []⟩ 8 (by kernel_rfl) (by kernel_rfl) (by kernel_rfl) (by kernel_rfl)) ?_
  intro W base args ds gs before hval0 hW _ _ _
  have hval : ∀ (j : Nat) t v, Try.f4.params[j]? = some t → args[j]? = some v → Value.okWide Try.prog W .any base t v := hval0
  have hW' := hW
  obtain ⟨p, q, hA0, hV, rfl, _, _⟩ := hW
  have hA : DataW.TrodAll enc Try.prog W 0 (fun _ => true) true Try.f4.params.toList args.toList ds p := hA0
  rw [Try.params4] at hA hval
  obtain ⟨v0, d0, rfl, rfl, h0⟩ := trodAll_one hA
  obtain ⟨rfl, rfl⟩ := trodVars_none hV
  obtain ⟨a0, len, cap, rfl⟩ := okWide_slice Try.underlying38 (hval 0 38 v0 rfl rfl)
  have h0k := h0
  obtain ⟨fuel, hf⟩ := h0
  clear hA0 hval0
  simp only [List.append_nil] at hW'
  have hlt : ∀ x ∈ p, x.block < W.heap.size := fun x hx => by simpa using hW'.lt x hx
  have fin : ∀ (W' : World), Below W.heap.size W W' →
      Rows.booksBackSpec.post enc Try.checked.prog Try.f4 false true false false W #[.slice a0 len cap] (.bool true) W' := by
    intro W' hnx
    exact ⟨_, _, _, [] ++ [], p, [], hW', trodAll_mk1 (shut_bool Try.underlying4 true), trodAll_mk1 (Below.trod laidOut (by kernel_rfl) (of_decide_eq_true (by kernel_rfl)) h0k hnx hlt), rfl, hnx.frame _, fun h => by cases h⟩
  have go : ∀ ls : List ByteArray, ls.length = len → PB.SAt W a0 ls → len ≤ cap → cap ≤ maxLen → (∀ s ∈ ls, s.size ≤ maxLen) →
      Calls Try.checked.prog 4 #[.slice a0 len cap] W fun e W' => ∃ v, e = Ending.returned v ∧ Rows.booksBackSpec.post enc Try.checked.prog Try.f4 false true false false W #[.slice a0 len cap] v W' := by
    rintro ls rfl hA hc hm hs
    have hml : maxLen ≤ 9223372036854775807 := by decide
    refine (PB.back_walk ls a0 cap W hA hc (Nat.le_trans hm hml) (fun s h => Nat.le_trans (hs s h) hml)).mono fun e W' ⟨he, hnx⟩ => ?_
    subst he
    exact ⟨_, rfl, fin W' hnx⟩
  rcases open_strings Try.underlying38 Try.underlying9 cellsE hf with ⟨hcs, hx⟩ | ⟨a, len', cap', ss, hcs, _, hl, hm, hz, hx, hcell, hws⟩
  · simp [Value.cells] at hcs
    obtain ⟨rfl, rfl, rfl⟩ := hcs
    exact go [] rfl (fun i hi => absurd hi (Nat.not_lt_zero _)) (Nat.le_refl _) (Nat.zero_le _) (fun s h => absurd h List.not_mem_nil)
  · simp [Value.cells] at hcs
    obtain ⟨rfl, rfl, rfl⟩ := hcs
    simp only [if_true] at hz
    refine go (ss.take len) (by rw [List.length_take]; omega) (fun i hi => ?_) hl hm (fun s h => hws s (List.mem_of_mem_take h))
    have hi2 : i < len := by rw [List.length_take] at hi; omega
    have hc := hcell i (by omega)
    obtain ⟨b, off, spot⟩ := a
    have hspot : spot = none := by simpa [Addr.add] using World.cell?_spot (hcell 0 (by omega))
    subst hspot
    refine ⟨b, off, rfl, ?_⟩
    rw [← add_plain, hc, List.getElem_take, List.getD_eq_getElem?_getD, List.getElem?_eq_getElem (by omega)]
    rfl
theorem over : Rows.booksBackRow.holds Try.pinned (OpenSpec.ofChange Rows.booksBackSpec) :=
  OpenClaim.holds_of_wide 4 Try.f4 rfl rfl rfl rfl rfl rfl rfl ⟨rfl, rfl, rfl, rfl, rfl⟩ rfl rfl rfl rfl rfl (by kernel_rfl) Try.func4 (by kernel_rfl)
    (of_decide_eq_true (by kernel_rfl)) (by unfold Func.isWrapper; first | (rw [if_pos (by decide +kernel)]; kernel_rfl) | (rw [if_neg (by decide +kernel)]; exact ⟨rfl, rfl⟩))
    (fun os started H enc _ => lifted os started H enc)
theorem proved : Rows.BooksBackSaid := over
end Go.Proofs.Ytonmdifmlpfcpaa.booksBack
namespace Go.Proofs.Ytonmdifmlpfcpaa
/-- The row, under a short name, for the claim. -/
theorem booksBack_holds : Rows.BooksBackSaid := booksBack.proved
end Go.Proofs.Ytonmdifmlpfcpaa
