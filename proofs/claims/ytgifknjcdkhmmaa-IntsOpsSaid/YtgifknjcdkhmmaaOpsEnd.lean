import Derived.Test.YtgifknjcdkhmmaaOpsFacts
import Derived.Test.YtgifknjcdkhmmaaOpsWalk
namespace Go.Proofs.Ytgifknjcdkhmmaa.OpsFacts
open Go.RowKit Go.Proofs.Ytgifknjcdkhmmaa.PIntsOps Go.Proofs.YtgifknjcdkhmmaaW.PrintWords Go.Proofs.YtgifknjcdkhmmaaW.PrintLast Go.Proofs.YtgifknjcdkhmmaaW.PrintMore
open Go.Proofs.Ytgifknjcdkhmmaa.OpsWalk

theorem awake_is : environlaw01_awake.f 40 = some true := by decide +kernel
theorem intsOps_walk (s a b : Int) (w : World) (_w0 : (Lit.int .i64 s).wf = true) (_w1 : (Lit.int .i64 a).wf = true) (w2 : (Lit.int .i64 b).wf = true) :
    Calls Try.prog 4 #[.int .i64 s, .int .i64 a, .int .i64 b] w fun e w' => e = .returned (.bool true) ∧ Below w.heap.size w w' := by
  have hb : b ≤ 9223372036854775807 := by
    simp [Lit.wf, IntKind.min, IntKind.max, IntKind.signed, IntKind.bits] at w2; omega
  obtain ⟨x0, e0, f0, g0⟩ : ∃ x e, ints_Add.f 3 s a b = some (x, e) ∧ environref01_Add.f  s a b = some (x, e) := ⟨_, _, add_is s a b 0, radd_is s a b⟩
  obtain ⟨x1, e1, f1, g1⟩ : ∃ x e, ints_Sub.f 3 s a b = some (x, e) ∧ environref01_Sub.f  s a b = some (x, e) := ⟨_, _, sub_is s a b 0, rsub_is s a b⟩
  obtain ⟨x2, e2, f2, g2⟩ : ∃ x e, ints_Mul.f 3 s a b = some (x, e) ∧ environref01_Mul.f  s a b = some (x, e) := ⟨_, _, mul_is s a b 0, rmul_is s a b⟩
  obtain ⟨x3, e3, f3, g3⟩ : ∃ x e, ints_Over.f 3 s a b = some (x, e) ∧ environref01_Over.f  s a b = some (x, e) := ⟨_, _, over_is s a b 0, rover_is s a b⟩
  obtain ⟨x4, e4, f4, g4⟩ : ∃ x e, ints_Mod.f 3 s a b = some (x, e) ∧ environref01_Mod.f  s a b = some (x, e) := ⟨_, _, mod_is s a b 0, (rmod_is s a b 0).trans (mod_is s a b 0)⟩
  obtain ⟨x5, e5, f5, g5⟩ : ∃ x e, ints_Pow.f 80 s a b = some (x, e) ∧ environref01_Pow.f (b.toNat + 3) s a b = some (x, e) := ⟨_, _, pow_is s a b hb 0, rpow_is s a b hb⟩
  exact ops_walk s a b x0 e0 x1 e1 x2 e2 x3 e3 x4 e4 x5 e5 w (ret_b fun w => environlaw01_awake.calls 40 true w awake_is)
    (ret_b fun w => ints_Add.calls 3 s a b x0 e0 w f0) (ret_d fun w => environref01_Add.calls  s a b x0 e0 w g0)
    (ret_b fun w => ints_Sub.calls 3 s a b x1 e1 w f1) (ret_d fun w => environref01_Sub.calls  s a b x1 e1 w g1)
    (ret_b fun w => ints_Mul.calls 3 s a b x2 e2 w f2) (ret_d fun w => environref01_Mul.calls  s a b x2 e2 w g2)
    (ret_b fun w => ints_Over.calls 3 s a b x3 e3 w f3) (ret_d fun w => environref01_Over.calls  s a b x3 e3 w g3)
    (ret_b fun w => ints_Mod.calls 3 s a b x4 e4 w f4) (ret_d fun w => environref01_Mod.calls  s a b x4 e4 w g4)
    (ret_b fun w => ints_Pow.calls 80 s a b x5 e5 w f5) (ret_d fun w => environref01_Pow.calls (b.toNat + 3) s a b x5 e5 w g5)

end Go.Proofs.Ytgifknjcdkhmmaa.OpsFacts
