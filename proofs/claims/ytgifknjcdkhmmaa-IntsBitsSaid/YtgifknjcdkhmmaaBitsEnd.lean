import Derived.Test.YtgifknjcdkhmmaaBitsFacts
import Derived.Test.YtgifknjcdkhmmaaBitsWalk
namespace Go.Proofs.Ytgifknjcdkhmmaa.BitsFacts
open Go.RowKit Go.Proofs.Ytgifknjcdkhmmaa.PIntsBits Go.Proofs.YtgifknjcdkhmmaaW.PrintWords Go.Proofs.YtgifknjcdkhmmaaW.PrintLast Go.Proofs.YtgifknjcdkhmmaaW.PrintMore
open Go.Proofs.Ytgifknjcdkhmmaa.BitsWalk
theorem awake_is : environlaw01_awake.f 40 = some true := by decide +kernel
theorem wf64 {x : Int} (h : (Lit.int .i64 x).wf = true) : -9223372036854775808 ≤ x ∧ x ≤ 9223372036854775807 := by
  simp [Lit.wf, IntKind.min, IntKind.max, IntKind.signed, IntKind.bits] at h; omega
theorem elem_ok {s : Int} (he : er s = 0) {x i : Nat} (hx : x < fl s) (h1 : 1 ≤ i) (h2 : i ≤ wd s) : ints_Elem.f (0 + 2) s i x = some (x.testBit (wd s - i), 0) := by
  rw [elem_is s i x (by omega) 0, gw_mk he (isw_mk hx), if_pos (show 1 ≤ (i : Int) ∧ (i : Int) ≤ (wd s : Int) by omega), Int.toNat_natCast, Int.toNat_natCast, tb1]
theorem shift_ok {s : Int} (he : er s = 0) {x y : Nat} {n : Int} (hx : x < fl s) (hn : -9223372036854775808 ≤ n) (h : shS s x n = ((y : Int), 0)) : ints_Shift.f (0 + 2) s x n = some ((y : Int), 0) := by
  rw [shift_is s x n hn 0, gw_mk he (isw_mk hx), h]
theorem round_is {s : Int} (he : er s = 0) {x y : Nat} (hx : x < fl s) (hy : y < fl s) (i : Nat) (h1 : 1 ≤ i) (h2 : (i : Int) ≤ (wd s : Int)) : Round s x y ((x &&& y : Nat) : Int) (wd s) i := by
  have hxy : x &&& y < fl s := Nat.lt_of_le_of_lt Nat.and_le_left hx
  obtain ⟨there, back, kept, again, s1, t1, s2, t2, s3, t3, s4, t4, hor⟩ := shift_pair he hx h1 (by omega)
  have hw := wd_le s
  refine ⟨x.testBit (wd s - i), y.testBit (wd s - i), there, back, kept, again, 0, 0, 0, 0, ?_, ?_, ?_, ?_, ?_, ?_, ?_, ?_⟩
  · exact ret_b fun w => ints_Elem.calls (0 + 2) s i x _ _ w (elem_ok he hx h1 (by omega))
  · exact ret_b fun w => ints_Elem.calls (0 + 2) s i y _ _ w (elem_ok he hy h1 (by omega))
  · have h := elem_ok he hxy h1 (by omega)
    rw [Nat.testBit_and] at h
    exact ret_b fun w => ints_Elem.calls (0 + 2) s i _ _ _ w h
  · exact ret_b fun w => ints_Shift.calls (0 + 2) s x i _ _ w (shift_ok he hx (by omega) s1)
  · exact ret_b fun w => ints_Shift.calls (0 + 2) s there (-i) _ _ w (shift_ok he t1 (by omega) s2)
  · exact ret_b fun w => ints_Shift.calls (0 + 2) s x _ _ _ w (shift_ok he hx (by omega) s3)
  · exact ret_b fun w => ints_Shift.calls (0 + 2) s kept _ _ _ w (shift_ok he t3 (by omega) s4)
  · have h : ints_Or.f (0 + 3) s back again = some ((x : Int), 0) := by
      rw [or_is s back again 0, gw_mk he ⟨isw_mk t2, isw_mk t4⟩, Int.toNat_natCast, Int.toNat_natCast, hor]
    exact ret_b fun w => ints_Or.calls (0 + 3) s back again _ _ w h
theorem intsBits_walk (s v w : Int) (W0 : World) (_w0 : (Lit.int .i64 s).wf = true) (_w1 : (Lit.int .i64 v).wf = true) (_w2 : (Lit.int .i64 w).wf = true) :
    Calls Try.prog 6 #[.int .i64 s, .int .i64 v, .int .i64 w] W0 fun e w' => e = .returned (.bool true) ∧ Below W0.heap.size W0 w' := by
  have h9 : Ret 9 #[] (.bool true) := ret_b fun w => environlaw01_awake.calls 40 true w awake_is
  have hv : Ret 24 #[.int .i64 s, .int .i64 v] _ := ret_b fun W => ints_IsWord.calls (0 + 2) s v _ W (isword_is s v 0)
  have hw : Ret 24 #[.int .i64 s, .int .i64 w] _ := ret_b fun W => ints_IsWord.calls (0 + 2) s w _ W (isword_is s w 0)
  have noand : ¬ (er s = 0 ∧ isw s v ∧ isw s w) → ∃ x e, (e != 0) = true ∧ Ret 25 #[.int .i64 s, .int .i64 v, .int .i64 w] (.tuple #[.int .i64 x, .int .i64 e]) := by
    intro hn
    have h := and_is s v w 0
    by_cases he : er s = 0
    · have h' : gw 0 s (isw s v ∧ isw s w) (((v.toNat &&& w.toNat : Nat) : Int), 0) = (0, 11) := by
        unfold gw; rw [if_pos he, if_neg (fun h => hn ⟨he, h⟩)]
      rw [h'] at h
      exact ⟨0, 11, rfl, ret_b fun W => ints_And.calls (0 + 3) s v w _ _ W h⟩
    · have h' : gw 0 s (isw s v ∧ isw s w) (((v.toNat &&& w.toNat : Nat) : Int), 0) = (0, er s) := by
        unfold gw; rw [if_neg he]
      rw [h'] at h
      exact ⟨0, er s, by simpa using he, ret_b fun W => ints_And.calls (0 + 3) s v w _ _ W h⟩
  by_cases c1 : er s = 0 ∧ isw s v
  · by_cases c2 : er s = 0 ∧ isw s w
    · obtain ⟨x, rfl, hx⟩ := isw_nat c1.2
      obtain ⟨y, rfl, hy⟩ := isw_nat c2.2
      have he := c1.1
      have hfl := fl_bd s
      have hxy : x &&& y < fl s := Nat.lt_of_le_of_lt Nat.and_le_left hx
      rw [decide_eq_true c1] at hv
      rw [decide_eq_true c2] at hw
      have n1 : ∀ z : Nat, z < fl s → ints_Not.f (0 + 2) s z = some (((fl s - 1 - z : Nat) : Int), 0) := fun z hz => by
        rw [not_is s z 0, gw_mk he (isw_mk hz)]; congr 2; omega
      have nn : ∀ z z' : Nat, z < fl s → fl s - 1 - z = z' → Ret 27 #[.int .i64 s, .int .i64 z] (.tuple #[.int .i64 z', .int .i64 0]) := fun z z' hz e => by
        have h := n1 z hz; rw [e] at h
        exact ret_b fun W => ints_Not.calls (0 + 2) s z _ _ W h
      have ha : ints_And.f (0 + 3) s x y = some (((x &&& y : Nat) : Int), 0) := by
        rw [and_is s x y 0, gw_mk he ⟨isw_mk hx, isw_mk hy⟩, Int.toNat_natCast, Int.toNat_natCast]
      have ho : ints_Or.f (0 + 3) s ((fl s - 1 - x : Nat) : Int) ((fl s - 1 - y : Nat) : Int) = some (((fl s - 1 - (x &&& y) : Nat) : Int), 0) := by
        rw [or_is s _ _ 0, gw_mk he ⟨isw_mk (by omega), isw_mk (by omega)⟩, Int.toNat_natCast, Int.toNat_natCast, de_morgan hx hy]
      exact bits_yes s x y ((x &&& y : Nat) : Int) 0 (wd s) (er s) ((fl s - 1 - x : Nat) : Int) 0 ((fl s - 1 - y : Nat) : Int) 0 ((fl s - 1 - (x &&& y) : Nat) : Int) 0 W0 (by have := wd_pos he; omega) (by have := wd_le s; omega) h9 hv hw
        (ret_b fun W => ints_Width.calls s _ _ W (width_is s)) (nn x _ hx rfl) (nn y _ hy rfl) (ret_b fun W => ints_And.calls (0 + 3) s x y _ _ W ha) (ret_b fun W => ints_Or.calls (0 + 3) s _ _ _ _ W ho)
        (nn _ x (by omega) (by omega)) (nn _ _ hxy rfl) (fun i h1 h2 => round_is he hx hy i h1 h2)
    · rw [decide_eq_true c1] at hv
      rw [decide_eq_false c2] at hw
      obtain ⟨x, e, h1, h2⟩ := noand (fun h => c2 ⟨h.1, h.2.2⟩)
      exact bits_no2 s v w x e W0 h9 hv hw h2 h1
  · rw [decide_eq_false c1] at hv
    obtain ⟨x, e, h1, h2⟩ := noand (fun h => c1 ⟨h.1, h.2.1⟩)
    exact bits_no1 s v w x e W0 h9 hv h2 h1

end Go.Proofs.Ytgifknjcdkhmmaa.BitsFacts
