import Derived.Test.YtgifknjcdkhmmaaSumsFacts
import Derived.Test.YtgifknjcdkhmmaaSumsWalk
namespace Go.Proofs.Ytgifknjcdkhmmaa.SumsFacts
open Go.RowKit Go.Proofs.Ytgifknjcdkhmmaa.PIntsSums Go.Proofs.YtgifknjcdkhmmaaW.PrintWords Go.Proofs.YtgifknjcdkhmmaaW.PrintLast Go.Proofs.YtgifknjcdkhmmaaW.PrintMore
open Go.Proofs.Ytgifknjcdkhmmaa.SumsWalk
theorem awake_is : environlaw01_awake.f 40 = some true := by decide +kernel
theorem intsSums_walk (s a b : Int) (w : World) (_w0 : (Lit.int .i64 s).wf = true) (_w1 : (Lit.int .i64 a).wf = true) (_w2 : (Lit.int .i64 b).wf = true) :
    Calls Try.prog 5 #[.int .i64 s, .int .i64 a, .int .i64 b] w fun e w' => e = .returned (.bool true) ∧ Below w.heap.size w w' := by
  obtain ⟨x1, e1, f1, g1⟩ : ∃ x e, ints_Add.f 3 s a b = some (x, e) ∧ ints_Add.f 3 s b a = some (x, e) := have hz := (add_is s b a 0).trans (congrArg some (show _ = gd s ((-top s ≤ a ∧ a ≤ top s) ∧ (-top s ≤ b ∧ b ≤ top s)) (inn s (a + b)) by rw [comm_and, Int.add_comm])); ⟨_, _, add_is s a b 0, hz⟩
  obtain ⟨x2, e2, f2, g2⟩ : ∃ x e, ints_Mul.f 3 s a b = some (x, e) ∧ ints_Mul.f 3 s b a = some (x, e) := have hz := (mul_is s b a 0).trans (congrArg some (show _ = gd s ((-top s ≤ a ∧ a ≤ top s) ∧ (-top s ≤ b ∧ b ≤ top s)) (inn s (a * b)) by rw [comm_and, Int.mul_comm])); ⟨_, _, mul_is s a b 0, hz⟩
  have h9 : Ret 9 #[] (.bool true) := ret_b fun w => environlaw01_awake.calls 40 true w awake_is
  have hA : Ret 14 _ _ := ret_b fun w => ints_Add.calls 3 s a b x1 e1 w f1
  have hA2 : Ret 14 _ _ := ret_b fun w => ints_Add.calls 3 s b a x1 e1 w g1
  have hM : Ret 18 _ _ := ret_b fun w => ints_Mul.calls 3 s a b x2 e2 w f2
  have hM2 : Ret 18 _ _ := ret_b fun w => ints_Mul.calls 3 s b a x2 e2 w g2
  by_cases hb0 : b < 0
  · by_cases he : e1 = 0
    · subst he; exact sums_yes_low s a b x1 0 x2 e2 w h9 hA hA2 hM hM2 rfl (ret_b fun w => ints_Sub.calls 3 s x1 b a 0 w (sub_back f1)) hb0
    · exact sums_no_low s a b x1 e1 x2 e2 w h9 hA hA2 hM hM2 (by simpa using he) hb0
  · by_cases hb1 : 70 < b
    · by_cases he : e1 = 0
      · subst he; exact sums_yes_high s a b x1 0 x2 e2 w h9 hA hA2 hM hM2 rfl (ret_b fun w => ints_Sub.calls 3 s x1 b a 0 w (sub_back f1)) (by omega) hb1
      · exact sums_no_high s a b x1 e1 x2 e2 w h9 hA hA2 hM hM2 (by simpa using he) (by omega) hb1
    · obtain ⟨p, e3, f3⟩ : ∃ x e, ints_Pow.f 80 s a b = some (x, e) := ⟨_, _, pow_is s a b (by omega) 0⟩
      have hP : Ret 22 _ _ := ret_b fun w => ints_Pow.calls 80 s a b p e3 w f3
      by_cases h3 : e3 = 0
      · subst h3
        obtain ⟨x, y, f4, f5, f6⟩ := pow_parts (by omega) (by omega) f3
        have hX : Ret 22 _ _ := ret_b fun w => ints_Pow.calls 80 s a (b / 2) x 0 w f4
        have hY : Ret 22 _ _ := ret_b fun w => ints_Pow.calls 80 s a (b - b / 2) y 0 w f5
        have hZ : Ret 18 _ _ := ret_b fun w => ints_Mul.calls 3 s x y p 0 w f6
        by_cases he : e1 = 0
        · subst he; exact sums_yes_pok s a b x1 0 x2 e2 p 0 x y w h9 hA hA2 hM hM2 rfl (ret_b fun w => ints_Sub.calls 3 s x1 b a 0 w (sub_back f1)) (by omega) (by omega) hP rfl hX hY hZ
        · exact sums_no_pok s a b x1 e1 x2 e2 p 0 x y w h9 hA hA2 hM hM2 (by simpa using he) (by omega) (by omega) hP rfl hX hY hZ
      · have h3' : (e3 != 0) = true := by simpa using h3
        by_cases he : e1 = 0
        · subst he; exact sums_yes_perr s a b x1 0 x2 e2 p e3 w h9 hA hA2 hM hM2 rfl (ret_b fun w => ints_Sub.calls 3 s x1 b a 0 w (sub_back f1)) (by omega) (by omega) hP h3'
        · exact sums_no_perr s a b x1 e1 x2 e2 p e3 w h9 hA hA2 hM hM2 (by simpa using he) (by omega) (by omega) hP h3'

end Go.Proofs.Ytgifknjcdkhmmaa.SumsFacts
