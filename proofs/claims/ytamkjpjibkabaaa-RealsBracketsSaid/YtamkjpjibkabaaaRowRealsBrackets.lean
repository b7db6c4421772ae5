/- For any size and operation: Down is at most Up, Nearest is one of them, Zero is the one nearer to 0; all are valid, and what overflows or is an error has no number. The law RealsBrackets returns true for every input; no condition. -/
import Derived.Test.YtamkjpjibkabaaaRows
import Derived.Test.YtamkjpjibkabaaaBrackets
import Derived.WalkKit
import Derived.ProofKit
import Derived.OpenShut
import Derived.ShutString
import Derived.ChangeOld
import Derived.Below
import Derived.SizedLaws
import Derived.Lib.SmallJoins
import Derived.Carry
namespace Go.Proofs.Ytamkjpjibkabaaa.realsBrackets
open Go.ChangeShapes Go.WideShapes Go.ChangeAt Go.RowKit
set_option linter.unusedVariables false
theorem own : ownKnob Try.prog.godebug = none := by kernel_rfl
theorem laid : laidOutB Try.prog = true := by kernel_rfl
theorem cells29 : Try.prog.cellsOf 29 = 2 := by kernel_rfl
section
variable {H : Type} {enc : TypeId × Value → H} {W : World} {base b0 : Nat} {spare : Nat → Bool} {held : Bool}
set_option maxRecDepth 100000 in
/-- a plain number, read -/
theorem num_of {k : IntKind} {t : TypeId} (ht : Try.prog.underlying t = some (.int k)) {m : Nat} {c : Value} {y : DataW H × List MemPlace} (h : DataW.trod enc Try.prog W base spare held m t [c] = some y) : ∃ a : Int, c = .int k a ∧ y = (.lit (.int k a), []) ∧ (Lit.int k a).wf = true := by
  obtain ⟨a, e, rfl, w⟩ := DataW.trod_int ht h
  simp at e
  exact ⟨a, e, rfl, w⟩
set_option maxRecDepth 100000 in
/-- a real, read -/
theorem real_of {m : Nat} {c0 c1 : Value} {y : DataW H × List MemPlace} (h : DataW.trod enc Try.prog W base spare held m 29 [c0, c1] = some y) : ∃ a b : Int, c0 = .int .i64 a ∧ c1 = .int .i64 b ∧ y.2 = [] ∧ (Lit.int .i64 a).wf = true ∧ (Lit.int .i64 b).wf = true := by
  obtain ⟨y0, y1, n, rfl, _, h0, h1⟩ := trod_struct2 Try.underlying29 h
  have k2 : Try.prog.cellsOf 2 = 1 := by kernel_rfl
  have k3 : Try.prog.cellsOf 3 = 1 := by kernel_rfl
  rw [k2] at h0; rw [k3] at h1
  obtain ⟨a, ea, rfl, wa⟩ := num_of Try.underlying2 (show DataW.trod enc Try.prog W base spare held n 2 [c0] = some y0 from h0)
  obtain ⟨b, eb, rfl, wb⟩ := num_of Try.underlying3 (show DataW.trod enc Try.prog W base spare held n 3 [c1] = some y1 from h1)
  exact ⟨a, b, ea, eb, rfl, wa, wb⟩
set_option maxRecDepth 100000 in
theorem open_i3 {v : Value} {d : DataW H} {p : List MemPlace} (hv : Value.okWide Try.prog W .any b0 3 v) (h : DataW.Trod enc Try.prog W base spare held 3 v d p) : ∃ a : Int, v = .int .i64 a ∧ p = [] ∧ (Lit.int .i64 a).wf = true := by
  obtain ⟨a, rfl, rfl, rfl, w⟩ := open_int Try.underlying3 hv h
  exact ⟨a, rfl, rfl, w⟩
set_option maxRecDepth 100000 in
theorem open_s29 {v : Value} {d : DataW H} {p : List MemPlace} (hv : Value.okWide Try.prog W .any b0 29 v) (h : DataW.Trod enc Try.prog W base spare held 29 v d p) : ∃ a b : Int, v = .agg #[.int .i64 a, .int .i64 b] ∧ p = [] ∧ (Lit.int .i64 a).wf = true ∧ (Lit.int .i64 b).wf = true := by
  obtain ⟨cs, rfl, hsz⟩ := okWide_struct Try.underlying29 hv
  obtain ⟨c0, c1, rfl⟩ := Go.Joins.array2 (hsz.trans cells29)
  obtain ⟨m, hf⟩ := h
  obtain ⟨a, b, rfl, rfl, hp, wa, wb⟩ := real_of (show DataW.trod enc Try.prog W base spare held m 29 [c0, c1] = some (d, p) from hf)
  exact ⟨a, b, rfl, hp, wa, wb⟩
set_option maxRecDepth 100000 in
theorem open_s23 {v : Value} {d : DataW H} {p : List MemPlace} (hv : Value.okWide Try.prog W .any b0 23 v) (h : DataW.Trod enc Try.prog W base spare held 23 v d p) : ∃ a b : Int, v = .agg #[.int .i64 a, .int .i64 b] ∧ p = [] ∧ (Lit.int .i64 a).wf = true ∧ (Lit.int .i64 b).wf = true := by
  have k3 : Try.prog.cellsOf 3 = 1 := by kernel_rfl
  have k23 : Try.prog.cellsOf 23 = 2 := by kernel_rfl
  obtain ⟨cs, rfl, hsz⟩ := okWide_struct Try.underlying23 hv
  obtain ⟨c0, c1, rfl⟩ := Go.Joins.array2 (hsz.trans k23)
  obtain ⟨m, hf⟩ := h
  obtain ⟨y0, y1, n, hx, _, h0, h1⟩ := trod_struct2 Try.underlying23 (show DataW.trod enc Try.prog W base spare held m 23 [c0, c1] = some (d, p) from hf)
  rw [k3] at h0; rw [k3] at h1
  obtain ⟨a, rfl, rfl, wa⟩ := num_of Try.underlying3 (show DataW.trod enc Try.prog W base spare held n 3 [c0] = some y0 from h0)
  obtain ⟨b, rfl, rfl, wb⟩ := num_of Try.underlying3 (show DataW.trod enc Try.prog W base spare held n 3 [c1] = some y1 from h1)
  simp only [Prod.mk.injEq] at hx
  exact ⟨a, b, rfl, hx.2, wa, wb⟩
theorem array6 {α : Type} {cs : Array α} (h : cs.size = 6) : ∃ c0 c1 c2 c3 c4 c5, cs = #[c0, c1, c2, c3, c4, c5] := by
  obtain ⟨l⟩ := cs
  match l, h with
  | [c0, c1, c2, c3, c4, c5], _ => exact ⟨c0, c1, c2, c3, c4, c5, rfl⟩
theorem array5 {α : Type} {cs : Array α} (h : cs.size = 5) : ∃ c0 c1 c2 c3 c4, cs = #[c0, c1, c2, c3, c4] := by
  obtain ⟨l⟩ := cs
  match l, h with
  | [c0, c1, c2, c3, c4], _ => exact ⟨c0, c1, c2, c3, c4, rfl⟩
set_option maxRecDepth 100000 in
/-- three reals in an array -/
theorem open_a42 {v : Value} {d : DataW H} {p : List MemPlace} (hv : Value.okWide Try.prog W .any b0 42 v) (h : DataW.Trod enc Try.prog W base spare held 42 v d p) : ∃ a0 a1 a2 a3 a4 a5 : Int, v = .agg #[.int .i64 a0, .int .i64 a1, .int .i64 a2, .int .i64 a3, .int .i64 a4, .int .i64 a5] ∧ p = [] ∧ (Lit.int .i64 a0).wf = true ∧ (Lit.int .i64 a1).wf = true ∧ (Lit.int .i64 a2).wf = true ∧ (Lit.int .i64 a3).wf = true ∧ (Lit.int .i64 a4).wf = true ∧ (Lit.int .i64 a5).wf = true := by
  have k42 : Try.prog.cellsOf 42 = 6 := by kernel_rfl
  obtain ⟨cs, rfl, hsz⟩ : ∃ cs, v = .agg cs ∧ cs.size = Try.prog.cellsOf 42 := by
    simp only [Value.okWide, Try.underlying42] at hv
    obtain ⟨cs, h1, h2, _⟩ := hv
    exact ⟨cs, h1, h2⟩
  obtain ⟨c0, c1, c2, c3, c4, c5, rfl⟩ := array6 (hsz.trans k42)
  obtain ⟨m, hf⟩ := h
  obtain ⟨xs, n, _, hx, _, hlen, hi⟩ := DataW.trod_array Try.underlying42 (show DataW.trod enc Try.prog W base spare held m 42 [c0, c1, c2, c3, c4, c5] = some (d, p) from hf)
  match xs, hlen with
  | [y0, y1, y2], _ =>
    have h0 := hi 0 (by decide); have h1 := hi 1 (by decide); have h2 := hi 2 (by decide)
    rw [cells29] at h0 h1 h2
    obtain ⟨a0, a1, rfl, rfl, e0, wa0, wa1⟩ := real_of (show DataW.trod enc Try.prog W base spare held n 29 [c0, c1] = some y0 from h0)
    obtain ⟨a2, a3, rfl, rfl, e1, wa2, wa3⟩ := real_of (show DataW.trod enc Try.prog W base spare held n 29 [c2, c3] = some y1 from h1)
    obtain ⟨a4, a5, rfl, rfl, e2, wa4, wa5⟩ := real_of (show DataW.trod enc Try.prog W base spare held n 29 [c4, c5] = some y2 from h2)
    simp only [Prod.mk.injEq, List.flatMap_cons, List.flatMap_nil, e0, e1, e2, List.append_nil] at hx
    exact ⟨a0, a1, a2, a3, a4, a5, rfl, hx.2, wa0, wa1, wa2, wa3, wa4, wa5⟩
end
section
variable {H : Type} {enc : TypeId × Value → H} {W : World} {base b0 : Nat} {spare : Nat → Bool} {held : Bool}
set_option maxRecDepth 100000 in
/-- an operation and two reals -/
theorem open_two47 {v : Value} {d : DataW H} {p : List MemPlace} (hv : Value.okWide Try.prog W .any b0 47 v) (h : DataW.Trod enc Try.prog W base spare held 47 v d p) : ∃ o a0 a1 a2 a3 : Int, v = .agg #[.int .u8 o, .int .i64 a0, .int .i64 a1, .int .i64 a2, .int .i64 a3] ∧ p = [] ∧ (Lit.int .u8 o).wf = true ∧ (Lit.int .i64 a0).wf = true ∧ (Lit.int .i64 a1).wf = true ∧ (Lit.int .i64 a2).wf = true ∧ (Lit.int .i64 a3).wf = true := by
  have k47 : Try.prog.cellsOf 47 = 5 := by kernel_rfl
  have k5 : Try.prog.cellsOf 5 = 1 := by kernel_rfl
  obtain ⟨cs, rfl, hsz⟩ := okWide_struct Try.underlying47 hv
  obtain ⟨c0, c1, c2, c3, c4, rfl⟩ := array5 (hsz.trans k47)
  obtain ⟨m, hf⟩ := h
  obtain ⟨y0, y1, y2, n, hx, _, h0, h1, h2⟩ := Go.Deep.trod_struct3 Try.underlying47 (show DataW.trod enc Try.prog W base spare held m 47 [c0, c1, c2, c3, c4] = some (d, p) from hf)
  rw [k5] at h0; rw [cells29] at h1 h2
  obtain ⟨o, rfl, rfl, wo⟩ := num_of Try.underlying5 (show DataW.trod enc Try.prog W base spare held n 5 [c0] = some y0 from h0)
  obtain ⟨a0, a1, rfl, rfl, e1, wa0, wa1⟩ := real_of (show DataW.trod enc Try.prog W base spare held n 29 [c1, c2] = some y1 from h1)
  obtain ⟨a2, a3, rfl, rfl, e2, wa2, wa3⟩ := real_of (show DataW.trod enc Try.prog W base spare held n 29 [c3, c4] = some y2 from h2)
  simp only [Prod.mk.injEq, e1, e2, List.append_nil] at hx
  exact ⟨o, a0, a1, a2, a3, rfl, hx.2, wo, wa0, wa1, wa2, wa3⟩
end
set_option maxRecDepth 100000 in
theorem lifted (os : Os) (started : os.Started) (H : Type) (enc : TypeId × Value → H) :
    ReturnsInHanded {} Try.checked os 8 .any (Rows.realsBracketsSpec.pre6 enc Try.prog Try.f8 Rows.realsBracketsRow.domain false) (Rows.realsBracketsSpec.post enc Try.prog Try.f8 false true false false) := by
  refine returnsInHanded_of_change_sized (C := Try.checked) own started (by kernel_rfl) Try.func8
    (ChangeSpec.witness6 (enc := enc) (C := Try.checked) false ⟨#[], #[.int .i64 0, .agg #[.int .u8 0, .int .i64 0, .int .i64 0, .int .i64 0, .int .i64 0]], []⟩ 8 (by kernel_rfl) (by kernel_rfl) (by kernel_rfl) (by kernel_rfl)) ?_
  intro W base args ds gs before hval0 hW hcnd hsz0 _
  have hval : ∀ (j : Nat) t v, Try.f8.params[j]? = some t → args[j]? = some v → Value.okWide Try.prog W .any base t v := hval0
  have hW' := hW
  obtain ⟨p, q, hA0, hV, rfl, hfz, hnd⟩ := hW
  have hA : DataW.TrodAll enc Try.prog W 0 (fun _ => true) true Try.f8.params.toList args.toList ds p := hA0
  rw [Try.params8] at hA hval
  obtain ⟨v0, vs0, d0, ds0, p0, q0, hargs, rfl, rfl, h0, r0⟩ := trodAll_cons hA
  obtain ⟨v1, vs1, d1, ds1, p1, q1, rfl, rfl, rfl, h1, r1⟩ := trodAll_cons r0
  obtain ⟨rfl, rfl, rfl⟩ := trodAll_nil r1
  obtain rfl : args = #[v0, v1] := by cases args; simp_all
  obtain ⟨rfl, rfl⟩ := trodVars_none hV
  obtain ⟨a0_0, rfl, rfl, w0_0⟩ := open_i3 (hval 0 3 v0 rfl rfl) h0
  obtain ⟨a1_0, a1_1, a1_2, a1_3, a1_4, rfl, rfl, w1_0, w1_1, w1_2, w1_3, w1_4⟩ := open_two47 (hval 1 47 v1 rfl rfl) h1
  clear hA0 hval0 hsz0
  refine ((fun s op xm xe ym ye W w0 w1 w2 w3 w4 w5 => PR.realsBrackets_walk s op xm xe ym ye W w2 w4) a0_0 a1_0 a1_1 a1_2 a1_3 a1_4 W w0_0 w1_0 w1_1 w1_2 w1_3 w1_4).mono fun e W' ⟨he, bel⟩ => ?_
  subst he
  exact ⟨_, rfl, _, _, _, [], _, [], hW', trodAll_mk1 (shut_bool Try.underlying4 _), (trodAll_cons_mk (Below.trod laid (by kernel_rfl) (of_decide_eq_true (by kernel_rfl)) h0 bel (fun _ h => by cases h)) (trodAll_cons_mk (Below.trod laid (by kernel_rfl) (of_decide_eq_true (by kernel_rfl)) h1 bel (fun _ h => by cases h)) trodAll_mk0)), rfl, bel.frame _, fun h => by cases h⟩
theorem over : Rows.realsBracketsRow.holds Try.pinned (OpenSpec.ofChange Rows.realsBracketsSpec) :=
  OpenClaim.holds_of_wide 8 Try.f8 rfl rfl rfl rfl rfl rfl rfl ⟨rfl, rfl, rfl, rfl, rfl⟩ rfl rfl rfl rfl rfl (by kernel_rfl) Try.func8 (by kernel_rfl)
    (of_decide_eq_true (by kernel_rfl)) (by unfold Func.isWrapper; first | (rw [if_pos (by decide +kernel)]; kernel_rfl) | (rw [if_neg (by decide +kernel)]; exact ⟨rfl, rfl⟩))
    (fun os started H enc _ => lifted os started H enc)
theorem proved : Rows.RealsBracketsSaid := over
end Go.Proofs.Ytamkjpjibkabaaa.realsBrackets
namespace Go.Proofs.Ytamkjpjibkabaaa
/-- The row, under a short name, for the claim. -/
theorem realsBrackets_holds : Rows.RealsBracketsSaid := realsBrackets.proved
end Go.Proofs.Ytamkjpjibkabaaa
