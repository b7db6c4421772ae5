import Derived.Test.YtgifknjcdkhmmaaWordsFacts
import Derived.Test.YtgifknjcdkhmmaaWordsWalk
namespace Go.Proofs.Ytgifknjcdkhmmaa.WordsFacts
open Go.RowKit Go.Proofs.Ytgifknjcdkhmmaa.PIntsWords Go.Proofs.YtgifknjcdkhmmaaW.PrintWords Go.Proofs.YtgifknjcdkhmmaaW.PrintLast Go.Proofs.YtgifknjcdkhmmaaW.PrintMore
open Go.Proofs.Ytgifknjcdkhmmaa.WordsWalk
theorem awake_is : environlaw01_awake.f 40 = some true := by decide +kernel
theorem wf64 {x : Int} (h : (Lit.int .i64 x).wf = true) : -9223372036854775808 ≤ x ∧ x ≤ 9223372036854775807 := by
  simp [Lit.wf, IntKind.min, IntKind.max, IntKind.signed, IntKind.bits] at h; omega
theorem intsWords_walk (s v w : Int) (W : World) (w0 : (Lit.int .i64 s).wf = true) (w1 : (Lit.int .i64 v).wf = true) (_w2 : (Lit.int .i64 w).wf = true) :
    Calls Try.prog 8 #[.int .i64 s, .int .i64 v, .int .i64 w] W fun e w' => e = .returned (.bool true) ∧ Below W.heap.size W w' := by
  have h0 := wf64 w0
  have h1 := wf64 w1
  obtain ⟨bb, eb, fe, ge⟩ : ∃ x e, ints_Elem.f (0 + 2) s v w = some (x, e) ∧ environref01_Elem.f s v w = some (x, e) := ⟨_, _, elem_is s v w h1.1 0, relem_is s v w h1.1⟩
  obtain ⟨x0, e0, f0, g0⟩ : ∃ x e, ints_Not.f 2 s w = some (x, e) ∧ environref01_Not.f  s w = some (x, e) := ⟨_, _, not_is s w 0, rnot_is s w⟩
  obtain ⟨x1, e1, f1, g1⟩ : ∃ x e, ints_And.f 3 s v w = some (x, e) ∧ environref01_And.f 62 s v w = some (x, e) := ⟨_, _, and_is s v w 0, rand_is s v w 62 (by decide)⟩
  obtain ⟨x2, e2, f2, g2⟩ : ∃ x e, ints_Or.f 3 s v w = some (x, e) ∧ environref01_Or.f 62 s v w = some (x, e) := ⟨_, _, or_is s v w 0, ror_is s v w 62 (by decide)⟩
  obtain ⟨x3, e3, f3, g3⟩ : ∃ x e, ints_Shift.f 2 s w v = some (x, e) ∧ environref01_Shift.f (62 + 1) s w v = some (x, e) := ⟨_, _, shift_is s w v h1.1 0, rshift_is s w v h1.1 62 (by decide)⟩
  obtain ⟨x4, e4, f4, g4⟩ : ∃ x e, ints_Bin.f 2 s w = some (x, e) ∧ environref01_Bin.f  s w = some (x, e) := ⟨_, _, bin_is s w 0, rbin_is s w⟩
  obtain ⟨x5, e5, f5, g5⟩ : ∃ x e, ints_AbsWord.f 2 s w = some (x, e) ∧ environref01_AbsWord.f  s w = some (x, e) := ⟨_, _, absw_is s w 0, rabsw_is s w⟩
  obtain ⟨x6, e6, f6, g6⟩ : ∃ x e, ints_LengWord.f 2 s w = some (x, e) ∧ environref01_LengWord.f  s w = some (x, e) := ⟨_, _, lengw_is s w 0, rlengw_is s w⟩
  obtain ⟨x7, e7, f7, g7⟩ : ∃ x e, ints_ShortenWord.f 2 s w = some (x, e) ∧ environref01_ShortenWord.f  s w = some (x, e) := ⟨_, _, shortw_is s w 0, rshortw_is s w h0.1 h0.2⟩
  exact words_walk s v w bb eb x0 e0 x1 e1 x2 e2 x3 e3 x4 e4 x5 e5 x6 e6 x7 e7 W (ret_b fun w => environlaw01_awake.calls 40 true w awake_is)
    (ret_b fun W => ints_Elem.calls (0 + 2) s v w bb eb W fe) (ret_d fun W => environref01_Elem.calls s v w bb eb W ge)
    (ret_b fun W => ints_Not.calls 2 s w x0 e0 W f0) (ret_d fun W => environref01_Not.calls  s w x0 e0 W g0)
    (ret_b fun W => ints_And.calls 3 s v w x1 e1 W f1) (ret_d fun W => environref01_And.calls 62 s v w x1 e1 W g1)
    (ret_b fun W => ints_Or.calls 3 s v w x2 e2 W f2) (ret_d fun W => environref01_Or.calls 62 s v w x2 e2 W g2)
    (ret_b fun W => ints_Shift.calls 2 s w v x3 e3 W f3) (ret_d fun W => environref01_Shift.calls (62 + 1) s w v x3 e3 W g3)
    (ret_b fun W => ints_Bin.calls 2 s w x4 e4 W f4) (ret_d fun W => environref01_Bin.calls  s w x4 e4 W g4)
    (ret_b fun W => ints_AbsWord.calls 2 s w x5 e5 W f5) (ret_d fun W => environref01_AbsWord.calls  s w x5 e5 W g5)
    (ret_b fun W => ints_LengWord.calls 2 s w x6 e6 W f6) (ret_d fun W => environref01_LengWord.calls  s w x6 e6 W g6)
    (ret_b fun W => ints_ShortenWord.calls 2 s w x7 e7 W f7) (ret_d fun W => environref01_ShortenWord.calls  s w x7 e7 W g7)

end Go.Proofs.Ytgifknjcdkhmmaa.WordsFacts
