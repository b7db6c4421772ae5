import Derived.Test.YtgifknjcdkhmmaaTellsFacts
import Derived.Test.YtgifknjcdkhmmaaTellsWalk
namespace Go.Proofs.Ytgifknjcdkhmmaa.TellsFacts
open Go.RowKit Go.Proofs.Ytgifknjcdkhmmaa.PIntsTells Go.Proofs.YtgifknjcdkhmmaaW.PrintWords Go.Proofs.YtgifknjcdkhmmaaW.PrintLast Go.Proofs.YtgifknjcdkhmmaaW.PrintMore
open Go.Proofs.Ytgifknjcdkhmmaa.Single

open Go.Proofs.Ytgifknjcdkhmmaa.TellsWalk
theorem awake_is : environlaw01_awake.f 40 = some true := by decide +kernel
theorem wf64 {x : Int} (h : (Lit.int .i64 x).wf = true) : -9223372036854775808 ≤ x ∧ x ≤ 9223372036854775807 := by
  simp [Lit.wf, IntKind.min, IntKind.max, IntKind.signed, IntKind.bits] at h; omega
theorem odd_pair (s a : Int) : ∃ b e, Ret 36 #[.int .i64 s, .int .i64 a] (.tuple #[.bool b, .int .i64 e]) ∧ environref01_Odd.f s a = some (b, e) := by
  obtain ⟨x, e, hx, h⟩ := single_ret 73 s a (a % 2) (fun _ _ => by have := odd_fn a; rwa [bit1] at this) (fun M W er0 k w => single_yes73 s a M W er0 (a % 2) k w)
  refine ⟨(x == 1), e, odd_ret s a x e _ rfl h, ?_⟩
  rw [rodd_is]; congr 1
  unfold gd at hx; unfold oddS
  by_cases he : er s = 0
  · by_cases hi : -top s ≤ a ∧ a ≤ top s
    · rw [if_pos he, if_pos hi] at hx ⊢; cases hx; rfl
    · rw [if_pos he, if_neg hi] at hx ⊢; cases hx; rfl
  · rw [if_neg he] at hx ⊢; cases hx; rfl
theorem neg_pair (s a : Int) : ∃ x e, Ret 38 #[.int .i64 s, .int .i64 a] (.tuple #[.int .i64 x, .int .i64 e]) ∧ environref01_Neg.f s a = some (x, e) := by
  have hb := top_bd s
  obtain ⟨x, e, hx, h⟩ := single_ret 74 s a (-a) (fun _ hi => neg_fn (by omega) (by omega)) (fun M W er0 k w => single_yes74 s a M W er0 (-a) k w)
  exact ⟨x, e, pass 74 38 s a x e (Or.inl ⟨rfl, rfl⟩) h, by rw [rneg_is, hx]⟩
theorem abs_pair (s a : Int) : ∃ x e, Ret 40 #[.int .i64 s, .int .i64 a] (.tuple #[.int .i64 x, .int .i64 e]) ∧ environref01_Abs.f s a = some (x, e) := by
  have hb := top_bd s
  obtain ⟨x, e, hx, h⟩ := single_ret 62 s a (a.natAbs : Int) (fun _ hi => ret_d fun w => ints_magnitude.calls a _ w (mag_is' (by omega) (by omega))) (fun M W er0 k w => single_yes62 s a M W er0 (a.natAbs : Int) k w)
  exact ⟨x, e, pass 62 40 s a x e (Or.inr (Or.inl ⟨rfl, rfl⟩)) h, by rw [rabs_is, hx]⟩
theorem sign_pair (s a : Int) : ∃ x e, Ret 42 #[.int .i64 s, .int .i64 a] (.tuple #[.int .i64 x, .int .i64 e]) ∧ environref01_Sign.f s a = some (x, e) := by
  obtain ⟨x, e, hx, h⟩ := single_ret 75 s a (sg a) (fun _ _ => sign_fn a) (fun M W er0 k w => single_yes75 s a M W er0 (sg a) k w)
  exact ⟨x, e, pass 75 42 s a x e (Or.inr (Or.inr ⟨rfl, rfl⟩)) h, by rw [rsign_is, hx]⟩
theorem leng_pair (s a : Int) : ∃ x e, Ret 44 #[.int .i64 s, .int .i64 a] (.tuple #[.int .i64 x, .int .i64 e]) ∧ environref01_Leng.f s a = some (x, e) := by
  obtain ⟨y, hy⟩ := next_up s
  obtain ⟨x, e, hx, h⟩ := single_ret 77 s a a (fun _ _ => same_fn a) (fun M W er0 k w => single_yes77 s a M W er0 a k w)
  have hN : Ret 76 #[.int .i64 s, .int .i64 1] _ := ret_b fun w => ints_next.calls s 1 _ _ w hy
  rw [rleng_is]
  unfold lengS; unfold gd at hx
  by_cases he : er s = 0
  · rw [if_pos he] at hN
    by_cases h1 : s = 1
    · rw [if_pos h1] at hN
      exact ⟨0, 1, leng_no s a y 1 rfl hN, by rw [if_pos he, if_pos h1]⟩
    · rw [if_neg h1] at hN
      rw [if_pos he] at hx
      exact ⟨x, e, leng_yes s a y 0 x e rfl hN h, by rw [if_pos he, if_neg h1, hx]⟩
  · rw [if_neg he] at hN
    exact ⟨0, er s, leng_no s a y (er s) (by simpa using he) hN, by rw [if_neg he]⟩
theorem intsTells_walk (s a : Int) (w : World) (w0 : (Lit.int .i64 s).wf = true) (_w1 : (Lit.int .i64 a).wf = true) :
    Calls Try.prog 7 #[.int .i64 s, .int .i64 a] w fun e w' => e = .returned (.bool true) ∧ Below w.heap.size w w' := by
  have h0 := wf64 w0
  obtain ⟨b3, e3, o1, o2⟩ := odd_pair s a
  obtain ⟨x1, e1, n1, n2⟩ := neg_pair s a
  obtain ⟨x2, e2, a1, a2⟩ := abs_pair s a
  obtain ⟨x3, e4, s1, s2⟩ := sign_pair s a
  obtain ⟨x4, e5, l1, l2⟩ := leng_pair s a
  obtain ⟨x5, e6, f1, f2⟩ : ∃ x e, ints_Shorten.f (0 + 2) s a = some (x, e) ∧ environref01_Shorten.f s a = some (x, e) := ⟨_, _, short_is s a 0, rshort_is s a h0.1 h0.2⟩
  exact tells_walk s a (decide (er s = 0 ∧ (-top s ≤ a ∧ a ≤ top s))) (decide (er s = 0 ∧ isw s a)) b3 e3 (top s) (er s) (wd s) (er s) x1 e1 x2 e2 x3 e4 x4 e5 x5 e6 w
    (ret_b fun w => environlaw01_awake.calls 40 true w awake_is)
    (ret_b fun w => ints_Max.calls s _ _ w (max_is s)) (ret_d fun w => environref01_Max.calls s _ _ w (rmax_is s))
    (ret_b fun w => ints_Width.calls s _ _ w (width_is s)) (ret_d fun w => environref01_Width.calls s _ _ w (rwidth_is s))
    (ret_b fun w => ints_Is.calls (0 + 2) s a _ w (is_is s a 0)) (ret_d fun w => environref01_Is.calls s a _ w (ris_is s a))
    (ret_b fun w => ints_IsWord.calls (0 + 2) s a _ w (isword_is s a 0)) (ret_d fun w => environref01_IsWord.calls s a _ w (risw_is s a))
    o1 (ret_d fun w => environref01_Odd.calls s a b3 e3 w o2)
    n1 (ret_d fun w => environref01_Neg.calls s a x1 e1 w n2)
    a1 (ret_d fun w => environref01_Abs.calls s a x2 e2 w a2)
    s1 (ret_d fun w => environref01_Sign.calls s a x3 e4 w s2)
    l1 (ret_d fun w => environref01_Leng.calls s a x4 e5 w l2)
    (ret_b fun w => ints_Shorten.calls (0 + 2) s a x5 e6 w f1) (ret_d fun w => environref01_Shorten.calls s a x5 e6 w f2)

end Go.Proofs.Ytgifknjcdkhmmaa.TellsFacts
