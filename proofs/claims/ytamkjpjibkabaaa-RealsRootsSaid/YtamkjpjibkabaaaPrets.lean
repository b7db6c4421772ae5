import Derived.Test.YtamkjpjibkabaaaCmp
namespace Go.Proofs.Ytamkjpjibkabaaa.PR
open Go.RowKit Go.Proofs.YtamkjpjibkabaaaW.PrintWords Go.Proofs.YtamkjpjibkabaaaW.PrintLast Go.Proofs.YtamkjpjibkabaaaW.PrintMore
set_option linter.unusedVariables false
set_option linter.unusedSimpArgs false
/-! boxes that a law's walk carries along -/
structure Bxs (w wx : World) (bs : List (Nat × Array Value × TypeId)) : Prop where
  h : ∀ p ∈ bs, wx.heap[p.1]? = some (.cells p.2.1 p.2.2 (0, 0))
  b : Below w.heap.size w wx
theorem Bxs.next {w wx w2 : World} {bs : List (Nat × Array Value × TypeId)} (h : Bxs w wx bs) (hb : Below wx.heap.size wx w2) : Bxs w w2 bs := ⟨fun p hp => blk_below (h.h p hp) hb, below_step h.b hb⟩
theorem Bxs.drew {w wx : World} {bs : List (Nat × Array Value × TypeId)} (h : Bxs w wx bs) : Bxs w wx.drew bs := ⟨fun p hp => blk_drew (h.h p hp), below_drew1 h.b⟩
theorem Bxs.drewN {w wx : World} {bs : List (Nat × Array Value × TypeId)} (h : Bxs w wx bs) (n : Nat) : Bxs w (wx.drewN n) bs := ⟨fun p hp => blk_drewN (h.h p hp) n, pw_below_drewN h.b n⟩
theorem Bxs.alloc {w wx : World} {bs : List (Nat × Array Value × TypeId)} (h : Bxs w wx bs) (o : Obj) : Bxs w (wx.alloc o) bs := ⟨fun p hp => blk_alloc (h.h p hp) _, below_alloc h.b _⟩
theorem Bxs.push {w wx : World} {bs : List (Nat × Array Value × TypeId)} (h : Bxs w wx bs) (cs : Array Value) (t : TypeId) : Bxs w (wx.alloc (.cells cs t)) ((wx.heap.size, cs, t) :: bs) := by
  refine ⟨fun p hp => ?_, below_alloc h.b _⟩
  rcases List.mem_cons.1 hp with rfl | hp
  · exact blk_new _ _
  · exact blk_alloc (h.h p hp) _
theorem Bxs.get {w wx : World} {g : Nat} {cs : Array Value} {t : TypeId} {bs : List (Nat × Array Value × TypeId)} (h : Bxs w wx ((g, cs, t) :: bs)) : wx.heap[g]? = some (.cells cs t (0, 0)) := h.h _ (List.mem_cons_self ..)
theorem Bxs.tail {w wx : World} {p : Nat × Array Value × TypeId} {bs : List (Nat × Array Value × TypeId)} (h : Bxs w wx (p :: bs)) : Bxs w wx bs := ⟨fun q hq => h.h q (List.mem_cons_of_mem _ hq), h.b⟩
theorem bxs_nil (w : World) : Bxs w w [] := ⟨fun _ h => (List.not_mem_nil h).elim, Below.refl _ _⟩
theorem c2 {w : World} {g : Nat} {a b : Value} {t : TypeId} (h : w.heap[g]? = some (.cells #[a, b] t (0, 0))) : w.cell? ⟨g, 0, none⟩ = some a ∧ w.cell? ⟨g, 1, none⟩ = some b := ⟨(blk_cell h 0).trans rfl, (blk_cell h 1).trans rfl⟩
/-! what the operations of the program return -/
theorem wf64 {x : Int} (h : (Lit.int .i64 x).wf = true) : I64 x := by
  unfold I64
  simp [Lit.wf, IntKind.min, IntKind.max, IntKind.signed, IntKind.bits] at h; omega
theorem add_ret {s how m e n f D F c : Int} (hm : I64 m) (hn : I64 n) (h : addS s how m e n f = (D, F, c)) : Ret 21 #[.int .i64 s, .int .i64 how, .agg #[.int .i64 m, .int .i64 e], .agg #[.int .i64 n, .int .i64 f]] (.tuple #[.agg #[.int .i64 D, .int .i64 F], .int .i64 c]) := by
  obtain ⟨k, hk⟩ := (padd_is s how m e n f hm hn).rounds
  rw [h] at hk
  exact ret_b fun w => reals_Add.calls k s how m e n f D F c w hk
theorem sub_ret {s how m e n f D F c : Int} (hm : I64 m) (hn : I64 n) (h : subS s how m e n f = (D, F, c)) : Ret 23 #[.int .i64 s, .int .i64 how, .agg #[.int .i64 m, .int .i64 e], .agg #[.int .i64 n, .int .i64 f]] (.tuple #[.agg #[.int .i64 D, .int .i64 F], .int .i64 c]) := by
  obtain ⟨k, hk⟩ := (psub_is s how m e n f hm hn).rounds
  rw [h] at hk
  exact ret_b fun w => reals_Sub.calls k s how m e n f D F c w hk
theorem mul_ret {s how m e n f D F c : Int} (hm : I64 m) (hn : I64 n) (h : mulS s how m e n f = (D, F, c)) : Ret 25 #[.int .i64 s, .int .i64 how, .agg #[.int .i64 m, .int .i64 e], .agg #[.int .i64 n, .int .i64 f]] (.tuple #[.agg #[.int .i64 D, .int .i64 F], .int .i64 c]) := by
  obtain ⟨k, hk⟩ := (pmul_is s how m e n f hm hn).rounds
  rw [h] at hk
  exact ret_b fun w => reals_Mul.calls k s how m e n f D F c w hk
theorem div_ret {s how m e n f D F c : Int} (hm : I64 m) (hn : I64 n) (h : divS s how m e n f = (D, F, c)) : Ret 27 #[.int .i64 s, .int .i64 how, .agg #[.int .i64 m, .int .i64 e], .agg #[.int .i64 n, .int .i64 f]] (.tuple #[.agg #[.int .i64 D, .int .i64 F], .int .i64 c]) := by
  obtain ⟨k, hk⟩ := (pdiv_is s how m e n f hm hn).rounds
  rw [h] at hk
  exact ret_b fun w => reals_Div.calls k s how m e n f D F c w hk
theorem sqrt_ret {s how m e D F c : Int} (hm : I64 m) (h : sqrtS s how m e = (D, F, c)) : Ret 29 #[.int .i64 s, .int .i64 how, .agg #[.int .i64 m, .int .i64 e]] (.tuple #[.agg #[.int .i64 D, .int .i64 F], .int .i64 c]) := by
  obtain ⟨k, hk⟩ := (psqrt_is s how m e hm).rounds
  rw [h] at hk
  exact ret_b fun w => reals_Sqrt.calls k s how m e D F c w hk
theorem neg_ret {s m e D F c : Int} (hm : I64 m) (h : negS s m e = (D, F, c)) : Ret 31 #[.int .i64 s, .agg #[.int .i64 m, .int .i64 e]] (.tuple #[.agg #[.int .i64 D, .int .i64 F], .int .i64 c]) := by
  obtain ⟨k, hk⟩ := (pneg_is s m e hm).rounds
  rw [h] at hk
  exact ret_b fun w => reals_Neg.calls k s m e D F c w hk
theorem abs_ret {s m e D F c : Int} (hm : I64 m) (h : absS s m e = (D, F, c)) : Ret 33 #[.int .i64 s, .agg #[.int .i64 m, .int .i64 e]] (.tuple #[.agg #[.int .i64 D, .int .i64 F], .int .i64 c]) := by
  obtain ⟨k, hk⟩ := (pabs_is s m e hm).rounds
  rw [h] at hk
  exact ret_b fun w => reals_Abs.calls k s m e D F c w hk
theorem leng_ret {s m e D F c : Int} (hm : I64 m) (h : lengS s m e = (D, F, c)) : Ret 36 #[.int .i64 s, .agg #[.int .i64 m, .int .i64 e]] (.tuple #[.agg #[.int .i64 D, .int .i64 F], .int .i64 c]) := by
  obtain ⟨k, hk⟩ := (pleng_is s m e hm).rounds
  rw [h] at hk
  exact ret_b fun w => reals_Leng.calls k s m e D F c w hk
theorem shorten_ret {s how m e D F c : Int} (hm : I64 m) (h : shortenS s how m e = (D, F, c)) : Ret 37 #[.int .i64 s, .int .i64 how, .agg #[.int .i64 m, .int .i64 e]] (.tuple #[.agg #[.int .i64 D, .int .i64 F], .int .i64 c]) := by
  obtain ⟨k, hk⟩ := (pshorten_is s how m e hm).rounds
  rw [h] at hk
  exact ret_b fun w => reals_Shorten.calls k s how m e D F c w hk
theorem valid_ret {s m e : Int} {b : Bool} (hm : I64 m) (h : (decide (er s = 0) && okB (pd s) m.natAbs e) = b) : Ret 14 #[.int .i64 s, .agg #[.int .i64 m, .int .i64 e]] (.bool b) := by
  obtain ⟨k, hk⟩ := (pvalid_is s m e hm.1 hm.2).rounds
  rw [h] at hk
  exact ret_b fun w => reals_Valid.calls k s m e b w hk
theorem awake_ret : Ret 11 #[] (.bool true) :=
  awake_walk (ret_b fun w => reals_Make.calls 200 0 0 1000 (-3) 1 0 0 w (by decide +kernel)) (ret_b fun w => reals_Div.calls 200 (-1) 1 1 0 3 0 3333334 (-7) 0 w (by decide +kernel))
    (ret_b fun w => reals_Add.calls 200 (-1) 0 9999999 0 5 (-1) 1 7 0 w (by decide +kernel)) (ret_b fun w => reals_Sqrt.calls 200 0 0 2 0 14142135623731 (-13) 0 w (by decide +kernel))
theorem ok_I64 {p n : Nat} {m e : Int} (h : Ok p n e) (hp : p ≤ 18) (hm : m.natAbs = n) : I64 m ∧ I64 e := by
  have := ok_bd h hp
  exact ⟨⟨by omega, by omega⟩, ⟨by omega, by omega⟩⟩
theorem opS_I64 {s how : Int} {ok neg : Bool} {n : Nat} {E : Int} {more : Bool} {M F : Int} (h : opS s how ok (flat (rnd (pd s) how neg n E more)) = (M, F, 0)) : I64 M ∧ I64 F := by
  obtain ⟨hs, _, _, _, hr⟩ := opS_ok h
  have hp := pd_ok hs
  obtain ⟨x, _, rfl, rfl, kx⟩ := rnd_some hp.1 (flat_eq hr)
  exact ok_I64 kx hp.2 (sgn_natAbs _ _)
end Go.Proofs.Ytamkjpjibkabaaa.PR
