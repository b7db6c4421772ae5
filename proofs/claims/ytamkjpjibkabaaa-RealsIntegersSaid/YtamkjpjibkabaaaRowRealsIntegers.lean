/- For any size, direction and numbers Entier, Round, Leng, Shorten and Compare return what the definitions say, with all errors: the program's operations are the reference's. The law RealsIntegers returns true for every input; no condition. -/
import Derived.Test.YtamkjpjibkabaaaRows
import Derived.Test.YtamkjpjibkabaaaInts
import Derived.WalkKit
import Derived.ProofKit
import Derived.OpenShut
import Derived.ShutString
import Derived.ChangeOld
import Derived.Below
import Derived.SizedLaws
import Derived.Lib.SmallJoins
namespace Go.Proofs.Ytamkjpjibkabaaa.realsIntegers
open Go.ChangeShapes Go.WideShapes Go.ChangeAt Go.RowKit
open Go.ChangeMaps (open_string shut_string)
set_option linter.unusedVariables false
theorem cells23 : Try.prog.cellsOf 23 = 2 := by kernel_rfl
theorem cells29 : Try.prog.cellsOf 29 = 2 := by kernel_rfl
theorem own : ownKnob Try.prog.godebug = none := by kernel_rfl
set_option maxRecDepth 100000 in
theorem lifted (os : Os) (started : os.Started) (H : Type) (enc : TypeId × Value → H) :
    ReturnsInHanded {} Try.checked os 10 .any (Rows.realsIntegersSpec.pre6 enc Try.prog Try.f10 Rows.realsIntegersRow.domain false) (Rows.realsIntegersSpec.post enc Try.prog Try.f10 false true false false) := by
  refine returnsInHanded_of_change_sized (C := Try.checked) own started (by kernel_rfl) Try.func10
    (ChangeSpec.witness6 (enc := enc) (C := Try.checked) false ⟨#[], #[.agg #[.int .i64 0, .int .i64 0], .agg #[.int .i64 0, .int .i64 0], .agg #[.int .i64 0, .int .i64 0]], []⟩ 8 (by kernel_rfl) (by kernel_rfl) (by kernel_rfl) (by kernel_rfl)) ?_
  intro W base args ds gs before hval0 hW hcnd hsz0 _
  have hsz : (DataW.weightsEach Try.prog (Try.f10.params.toList ++ Rows.realsIntegersSpec.plain.varTypes Try.prog) (ds ++ gs)).all (· ≤ reachBytes) = true := hsz0
  have hval : ∀ (j : Nat) t v, Try.f10.params[j]? = some t → args[j]? = some v → Value.okWide Try.prog W .any base t v := hval0
  have hW' := hW
  obtain ⟨p, q, hA0, hV, rfl, hfz, hnd⟩ := hW
  have hA : DataW.TrodAll enc Try.prog W 0 (fun _ => true) true Try.f10.params.toList args.toList ds p := hA0
  rw [Try.params10] at hA hval hsz
  obtain ⟨v0, vs0, d0, ds0, p0, q0, hargs, rfl, rfl, h0, r0⟩ := trodAll_cons hA
  obtain ⟨v1, vs1, d1, ds1, p1, q1, rfl, rfl, rfl, h1, r1⟩ := trodAll_cons r0
  obtain ⟨v2, vs2, d2, ds2, p2, q2, rfl, rfl, rfl, h2, r2⟩ := trodAll_cons r1
  obtain ⟨rfl, rfl, rfl⟩ := trodAll_nil r2
  obtain rfl : args = #[v0, v1, v2] := by cases args; simp_all
  obtain ⟨rfl, rfl⟩ := trodVars_none hV
  obtain ⟨c0, b0, y0, z0, m0, rfl, rfl, rfl, hy0, hz0⟩ := Go.Joins.open_agg2 Try.underlying23 (by kernel_rfl) cells23 (hval 0 23 v0 rfl rfl) h0
  obtain ⟨a0, e0, rfl, w0⟩ := DataW.trod_int Try.underlying3 hy0
  obtain ⟨a0', e0', rfl, w0'⟩ := DataW.trod_int Try.underlying3 hz0
  simp at e0 e0'
  subst e0 e0'
  obtain ⟨c1, b1, y1, z1, m1, rfl, rfl, rfl, hy1, hz1⟩ := Go.Joins.open_agg2 Try.underlying29 (by kernel_rfl) cells29 (hval 1 29 v1 rfl rfl) h1
  obtain ⟨a1, e1, rfl, w1⟩ := DataW.trod_int Try.underlying2 hy1
  obtain ⟨a1', e1', rfl, w1'⟩ := DataW.trod_int Try.underlying3 hz1
  simp at e1 e1'
  subst e1 e1'
  obtain ⟨c2, b2, y2, z2, m2, rfl, rfl, rfl, hy2, hz2⟩ := Go.Joins.open_agg2 Try.underlying29 (by kernel_rfl) cells29 (hval 2 29 v2 rfl rfl) h2
  obtain ⟨a2, e2, rfl, w2⟩ := DataW.trod_int Try.underlying2 hy2
  obtain ⟨a2', e2', rfl, w2'⟩ := DataW.trod_int Try.underlying3 hz2
  simp at e2 e2'
  subst e2 e2'
  clear hA0 hval0 hsz0 hsz
  refine (PR.realsIntegers_walk a0 a0' a1 a1' a2 a2' W w0 w0' w1 w1' w2 w2').mono fun e W' ⟨he, bel⟩ => ?_
  subst he
  exact ⟨_, rfl, _, _, _, [], _, [], hW', trodAll_mk1 (shut_bool Try.underlying4 _), (trodAll_cons_mk (Go.Joins.shut_agg2 (y0 := (.lit (.int .i64 a0), [])) (y1 := (.lit (.int .i64 a0'), [])) Try.underlying23 (by kernel_rfl) cells23 ⟨1, by simp [DataW.trod, show Try.checked.prog.underlying 3 = _ from Try.underlying3, w0]⟩ ⟨1, by simp [DataW.trod, show Try.checked.prog.underlying 3 = _ from Try.underlying3, w0']⟩) (trodAll_cons_mk (Go.Joins.shut_agg2 (y0 := (.lit (.int .i64 a1), [])) (y1 := (.lit (.int .i64 a1'), [])) Try.underlying29 (by kernel_rfl) cells29 ⟨1, by simp [DataW.trod, show Try.checked.prog.underlying 2 = _ from Try.underlying2, w1]⟩ ⟨1, by simp [DataW.trod, show Try.checked.prog.underlying 3 = _ from Try.underlying3, w1']⟩) (trodAll_cons_mk (Go.Joins.shut_agg2 (y0 := (.lit (.int .i64 a2), [])) (y1 := (.lit (.int .i64 a2'), [])) Try.underlying29 (by kernel_rfl) cells29 ⟨1, by simp [DataW.trod, show Try.checked.prog.underlying 2 = _ from Try.underlying2, w2]⟩ ⟨1, by simp [DataW.trod, show Try.checked.prog.underlying 3 = _ from Try.underlying3, w2']⟩) trodAll_mk0))), rfl, bel.frame _, fun h => by cases h⟩
theorem over : Rows.realsIntegersRow.holds Try.pinned (OpenSpec.ofChange Rows.realsIntegersSpec) :=
  OpenClaim.holds_of_wide 10 Try.f10 rfl rfl rfl rfl rfl rfl rfl ⟨rfl, rfl, rfl, rfl, rfl⟩ rfl rfl rfl rfl rfl (by kernel_rfl) Try.func10 (by kernel_rfl)
    (of_decide_eq_true (by kernel_rfl)) (by unfold Func.isWrapper; first | (rw [if_pos (by decide +kernel)]; kernel_rfl) | (rw [if_neg (by decide +kernel)]; exact ⟨rfl, rfl⟩))
    (fun os started H enc _ => lifted os started H enc)
theorem proved : Rows.RealsIntegersSaid := over
end Go.Proofs.Ytamkjpjibkabaaa.realsIntegers
namespace Go.Proofs.Ytamkjpjibkabaaa
/-- The row, under a short name, for the claim. -/
theorem realsIntegers_holds : Rows.RealsIntegersSaid := realsIntegers.proved
end Go.Proofs.Ytamkjpjibkabaaa
