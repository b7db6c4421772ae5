import Derived.Test.YtamkjpjibkabaaaRLaw
namespace Go.Proofs.Ytamkjpjibkabaaa.PR
open Go.RowKit Go.Proofs.YtamkjpjibkabaaaW.PrintWords Go.Proofs.YtamkjpjibkabaaaW.PrintLast Go.Proofs.YtamkjpjibkabaaaW.PrintMore
set_option linter.unusedVariables false
set_option linter.unusedSimpArgs false
/-! Compare, walked -/
theorem sign_calls (a : Int) (w : World) : Calls Try.prog 67 #[.int .i64 a] w fun e w' => e = .returned (.int .i64 (sg a)) ∧ w' = w := by
  unfold sg
  by_cases h1 : a < 0
  · rw [if_pos h1]
    go_enter Try.func67, Try.ntmps67
    go_wp2
    go_ret
    exact ⟨rfl, rfl⟩
  · rw [if_neg h1]
    have h1' : decide (a < 0) = false := decide_eq_false h1
    by_cases h2 : a > 0
    · rw [if_pos h2]
      go_enter Try.func67, Try.ntmps67
      go_wp2
      go_ret
      exact ⟨rfl, rfl⟩
    · rw [if_neg h2]
      have h2' : decide (0 < a) = false := decide_eq_false h2
      go_enter Try.func67, Try.ntmps67
      go_wp2
      go_ret
      exact ⟨rfl, rfl⟩
theorem sg_bd (m : Int) : -1 ≤ sg m ∧ sg m ≤ 1 := by have := sg3 m; omega
theorem sign_is {a S : Int} (h : sg a = S) (w : World) : Calls Try.prog 67 #[.int .i64 a] w fun e w' => e = .returned (.int .i64 S) ∧ w' = w := h ▸ sign_calls a w
theorem mag_ex (a : Int) (u : Int) (hu : u = (a.natAbs : Int)) (ha : I64 a) (w : World) : Calls Try.prog 46 #[.int .i64 a] w fun e w' => e = .returned (.agg #[.int .u64 0, .int .u64 u]) ∧ w' = w.alloc (.cells #[.int .u64 0, .int .u64 u] 55) := by
  have hu55 := Try.underlying55
  unfold I64 at ha
  by_cases h : a < 0
  · have h1 : IntKind.u64.wrap (-(IntKind.u64.wrap a)) = u := by simp [IntKind.wrap, IntKind.signed, IntKind.bits]; omega
    have H := Aside0.mk h1
    clear hu h1
    go_enter Try.func46, Try.ntmps46
    go_wp2
    exact bodyPost_ret (v := .agg #[.int .u64 0, .int .u64 u]) (by simp [results, Try.results46, go_sem, H.out]) rfl ⟨rfl, by rw [H.out]⟩
  · obtain rfl : a = u := by omega
    have h' : decide (a < 0) = false := decide_eq_false h
    clear hu
    go_enter Try.func46, Try.ntmps46
    go_wp2
    exact bodyPost_ret (v := .agg #[.int .u64 0, .int .u64 a]) (by simp [results, Try.results46, go_sem]) rfl ⟨rfl, rfl⟩
theorem blk_new1 (w : World) (o o' : Obj) : ((w.alloc o).alloc o').heap[w.heap.size + 1]? = some o' := by simpa using blk_new (w.alloc o) o'
/-- the boxes of Compare: its two numbers -/
structure CmpX (w w' : World) (X Y : Array Value) : Prop where
  x : w'.heap[w.heap.size]? = some (.cells X 29 (0, 0))
  y : w'.heap[w.heap.size + 1]? = some (.cells Y 29 (0, 0))
  s : Below w.heap.size w w'
theorem CmpX.next {w w' w2 : World} {X Y : Array Value} (h : CmpX w w' X Y) (hb : Below w'.heap.size w' w2) : CmpX w w2 X Y := ⟨blk_below h.x hb, blk_below h.y hb, below_step h.s hb⟩
theorem CmpX.drew {w w' : World} {X Y : Array Value} (h : CmpX w w' X Y) : CmpX w w'.drew X Y := ⟨h.x, h.y, below_drew1 h.s⟩
theorem CmpX.drewN {w w' : World} {X Y : Array Value} (h : CmpX w w' X Y) (n : Nat) : CmpX w (w'.drewN n) X Y := ⟨h.x, h.y, pw_below_drewN h.s n⟩
theorem CmpX.alloc {w w' : World} {X Y : Array Value} (h : CmpX w w' X Y) (o : Obj) : CmpX w (w'.alloc o) X Y := ⟨blk_alloc h.x _, blk_alloc h.y _, below_alloc h.s _⟩
theorem CmpX.far {w w' : World} {X Y : Array Value} {g : Nat} (h : CmpX w w' X Y) (hl : w.heap.size + 1 < g) (i : Nat) (v : Value) : CmpX w (w'.setCell ⟨g, i, none⟩ v) X Y :=
  ⟨blk_far h.x (by simp; omega) _, blk_far h.y (by simp; omega) _, below_set h.s (by omega)⟩
theorem cmp_s {w w' : World} {m e n f : Int} (h : CmpX w w' #[.int .i64 m, .int .i64 e] #[.int .i64 n, .int .i64 f]) : (w'.cell? ⟨w.heap.size, 0, none⟩ = some (.int .i64 m) ∧ w'.cell? ⟨w.heap.size, 1, none⟩ = some (.int .i64 e) ∧ w'.cell? ⟨w.heap.size + 1, 0, none⟩ = some (.int .i64 n) ∧ w'.cell? ⟨w.heap.size + 1, 1, none⟩ = some (.int .i64 f)) ∧ Aside0 (CmpX w w' #[.int .i64 m, .int .i64 e] #[.int .i64 n, .int .i64 f]) :=
  ⟨⟨(blk_cell h.x 0).trans rfl, (blk_cell h.x 1).trans rfl, (blk_cell h.y 0).trans rfl, (blk_cell h.y 1).trans rfl⟩, ⟨h⟩⟩
theorem cmp_new (w : World) (X Y : Array Value) : CmpX w ((w.alloc (.cells X 29)).alloc (.cells Y 29)) X Y :=
  ⟨blk_alloc (blk_new w _) _, by have h := blk_new (w.alloc (.cells X 29)) (.cells Y 29); simpa using h, below_alloc (below_alloc (Below.refl _ _) _) _⟩
/-- beside them those of the magnitudes -/
structure CmpW (w w' : World) (X Y A B : Array Value) (ga gb : Nat) : Prop where
  c : CmpX w w' X Y
  a : w'.heap[ga]? = some (.cells A 55 (0, 0))
  b : w'.heap[gb]? = some (.cells B 55 (0, 0))
  n : ga ≠ gb
  n0 : w.heap.size + 1 < ga
  n1 : w.heap.size + 1 < gb
def CmpP (w w' : World) (X Y A B : Array Value) (s7 s8 : Value) : Prop := ∃ ga gb, s7 = .pointer (some ⟨ga, 0, none⟩) ∧ s8 = .pointer (some ⟨gb, 0, none⟩) ∧ CmpW w w' X Y A B ga gb
theorem cmp_cells {w w' : World} {ga gb : Nat} {m e n f u v : Int} (h : CmpW w w' #[.int .i64 m, .int .i64 e] #[.int .i64 n, .int .i64 f] #[.int .u64 0, .int .u64 u] #[.int .u64 0, .int .u64 v] ga gb) : w'.cell? ⟨w.heap.size, 0, none⟩ = some (.int .i64 m) ∧ w'.cell? ⟨w.heap.size, 1, none⟩ = some (.int .i64 e) ∧ w'.cell? ⟨w.heap.size + 1, 0, none⟩ = some (.int .i64 n) ∧ w'.cell? ⟨w.heap.size + 1, 1, none⟩ = some (.int .i64 f) ∧
    w'.frozen? ⟨w.heap.size, 0, none⟩ = false ∧ w'.frozen? ⟨w.heap.size, 1, none⟩ = false ∧ w'.frozen? ⟨w.heap.size + 1, 0, none⟩ = false ∧ w'.frozen? ⟨w.heap.size + 1, 1, none⟩ = false ∧ w'.cell? ⟨ga, 0, none⟩ = some (.int .u64 0) ∧ w'.cell? ⟨ga, 1, none⟩ = some (.int .u64 u) ∧ w'.cell? ⟨gb, 0, none⟩ = some (.int .u64 0) ∧ w'.cell? ⟨gb, 1, none⟩ = some (.int .u64 v) ∧ w'.frozen? ⟨ga, 0, none⟩ = false ∧ w'.frozen? ⟨ga, 1, none⟩ = false ∧ w'.frozen? ⟨gb, 0, none⟩ = false ∧ w'.frozen? ⟨gb, 1, none⟩ = false :=
  ⟨(blk_cell h.c.x 0).trans rfl, (blk_cell h.c.x 1).trans rfl, (blk_cell h.c.y 0).trans rfl, (blk_cell h.c.y 1).trans rfl, blk_frozen h.c.x 0, blk_frozen h.c.x 1, blk_frozen h.c.y 0, blk_frozen h.c.y 1, (blk_cell h.a 0).trans rfl, (blk_cell h.a 1).trans rfl, (blk_cell h.b 0).trans rfl, (blk_cell h.b 1).trans rfl, blk_frozen h.a 0, blk_frozen h.a 1, blk_frozen h.b 0, blk_frozen h.b 1⟩
theorem CmpW.next {w w' w2 : World} {X Y A B : Array Value} {ga gb : Nat} (h : CmpW w w' X Y A B ga gb) (hb : Below w'.heap.size w' w2) : CmpW w w2 X Y A B ga gb := ⟨h.c.next hb, blk_below h.a hb, blk_below h.b hb, h.n, h.n0, h.n1⟩
theorem CmpW.drew {w w' : World} {X Y A B : Array Value} {ga gb : Nat} (h : CmpW w w' X Y A B ga gb) : CmpW w w'.drew X Y A B ga gb := ⟨h.c.drew, h.a, h.b, h.n, h.n0, h.n1⟩
theorem cmp_t {w w' : World} {ga gb : Nat} {m e n f u v : Int} (h : CmpW w w' #[.int .i64 m, .int .i64 e] #[.int .i64 n, .int .i64 f] #[.int .u64 0, .int .u64 u] #[.int .u64 0, .int .u64 v] ga gb) : (w'.cell? ⟨ga, 0, none⟩ = some (.int .u64 0) ∧ w'.cell? ⟨ga, 1, none⟩ = some (.int .u64 u) ∧ w'.cell? ⟨gb, 0, none⟩ = some (.int .u64 0) ∧ w'.cell? ⟨gb, 1, none⟩ = some (.int .u64 v) ∧ w'.cell? ⟨w.heap.size, 1, none⟩ = some (.int .i64 e) ∧ w'.cell? ⟨w.heap.size + 1, 1, none⟩ = some (.int .i64 f)) ∧ Aside0 (CmpW w w' #[.int .i64 m, .int .i64 e] #[.int .i64 n, .int .i64 f] #[.int .u64 0, .int .u64 u] #[.int .u64 0, .int .u64 v] ga gb) := by
  obtain ⟨x0, x1, y0, y1, _, _, _, _, a0, a1, b0, b1, _⟩ := cmp_cells h
  exact ⟨⟨a0, a1, b0, b1, x1, y1⟩, ⟨h⟩⟩
theorem cmp_e1 {w w2 : World} {X Y A B : Array Value} (h : CmpX w w2 X Y) : CmpP w ((w2.alloc (.cells A 55)).alloc (.cells B 55)) X Y A B (.pointer (some ⟨w2.heap.size, 0, none⟩)) (.pointer (some ⟨w2.heap.size + 1, 0, none⟩)) := by
  have := blk_lt h.y
  exact ⟨_, _, rfl, rfl, (h.alloc _).alloc _, blk_alloc (blk_new _ _) _, blk_new1 _ _ _, by omega, by omega, by omega⟩
theorem cmp_f1 {w w2 : World} {X Y A B : Array Value} (h : CmpX w w2 X Y) : CmpP w ((w2.alloc (.cells B 55)).alloc (.cells A 55)) X Y A B (.pointer (some ⟨w2.heap.size + 1, 0, none⟩)) (.pointer (some ⟨w2.heap.size, 0, none⟩)) := by
  have := blk_lt h.y
  exact ⟨_, _, rfl, rfl, (h.alloc _).alloc _, blk_new1 _ _ _, blk_alloc (blk_new _ _) _, by omega, by omega, by omega⟩
theorem put2 {w : World} {g : Nat} {a b a' b' : Value} {t : TypeId} (h : w.heap[g]? = some (.cells #[a, b] t (0, 0))) : ((w.setCell ⟨g, 0, none⟩ a').setCell ⟨g, 1, none⟩ b').heap[g]? = some (.cells #[a', b'] t (0, 0)) := blk_put (blk_put h 0 _ rfl) 1 _ rfl
theorem far2 {w : World} {g g' : Nat} {cs : Array Value} {a b : Value} {t : TypeId} (h : w.heap[g]? = some (.cells cs t (0, 0))) (hn : g ≠ g') : ((w.setCell ⟨g', 0, none⟩ a).setCell ⟨g', 1, none⟩ b).heap[g]? = some (.cells cs t (0, 0)) := blk_far (blk_far h hn _) hn _
theorem size2 (w : World) (g : Nat) (a b : Value) : ((w.setCell ⟨g, 0, none⟩ a).setCell ⟨g, 1, none⟩ b).heap.size = w.heap.size := by simp
theorem cmp_swap {w w' : World} {ga gb : Nat} {x0 x1 y0 y1 a0 a1 b0 b1 : Value} {X0 X1 Y0 Y1 A0 A1 B0 B1 : Value} (h : CmpW w w' #[x0, x1] #[y0, y1] #[a0, a1] #[b0, b1] ga gb) : CmpW w ((((((((w'.setCell ⟨w.heap.size, 0, none⟩ X0).setCell ⟨w.heap.size, 1, none⟩ X1).setCell ⟨w.heap.size + 1, 0, none⟩ Y0).setCell ⟨w.heap.size + 1, 1, none⟩ Y1).setCell ⟨ga, 0, none⟩ A0).setCell ⟨ga, 1, none⟩ A1).setCell ⟨gb, 0, none⟩ B0).setCell ⟨gb, 1, none⟩ B1).drew #[X0, X1] #[Y0, Y1] #[A0, A1] #[B0, B1] ga gb := by
  have n0 := h.n0; have n1 := h.n1
  refine ⟨⟨?_, ?_, ?_⟩, ?_, ?_, h.n, h.n0, h.n1⟩
  · exact blk_drew (far2 (far2 (far2 (put2 h.c.x) (by omega)) (by omega)) (by omega))
  · exact blk_drew (far2 (far2 (put2 (far2 h.c.y (by omega))) (by omega)) (by omega))
  · exact below_drew1 (below_set (below_set (below_set (below_set (below_set (below_set (below_set (below_set h.c.s (by omega)) (by omega)) (by omega)) (by omega)) (by omega)) (by omega)) (by omega)) (by omega))
  · exact blk_drew (far2 (put2 (far2 (far2 h.a (by omega)) (by omega))) h.n)
  · exact blk_drew (put2 (far2 (far2 (far2 h.b (by omega)) (by omega)) (Ne.symm h.n)))
theorem cmp_e2 {w w2 : World} {X Y : Array Value} {g : Nat} {a' b' c d : Value} (h : CmpX w w2 X Y) (hg : w2.heap[g]? = some (.cells #[.int .u64 0, .int .u64 0] 55 (0, 0))) (hl : w.heap.size + 1 < g) : CmpP w (((w2.setCell ⟨g, 0, none⟩ a').setCell ⟨g, 1, none⟩ b').alloc (.cells #[c, d] 55)) X Y #[a', b'] #[c, d] (.pointer (some ⟨g, 0, none⟩)) (.pointer (some ⟨w2.heap.size, 0, none⟩)) := by
  have := blk_lt h.y; have := blk_lt hg
  have hn := blk_new ((w2.setCell ⟨g, 0, none⟩ a').setCell ⟨g, 1, none⟩ b') (.cells #[c, d] 55)
  rw [size2] at hn
  exact ⟨_, _, rfl, rfl, ((h.far hl _ _).far hl _ _).alloc _, blk_alloc (put2 hg) _, hn, by omega, by omega, by omega⟩
theorem cmp_f2 {w w2 : World} {X Y : Array Value} {g : Nat} {a' b' c d : Value} (h : CmpX w w2 X Y) (hg : w2.heap[g]? = some (.cells #[.int .u64 0, .int .u64 0] 55 (0, 0))) (hl : w.heap.size + 1 < g) : CmpP w (((w2.setCell ⟨g, 0, none⟩ a').setCell ⟨g, 1, none⟩ b').alloc (.cells #[c, d] 55)) X Y #[c, d] #[a', b'] (.pointer (some ⟨w2.heap.size, 0, none⟩)) (.pointer (some ⟨g, 0, none⟩)) := by
  have := blk_lt h.y; have := blk_lt hg
  have hn := blk_new ((w2.setCell ⟨g, 0, none⟩ a').setCell ⟨g, 1, none⟩ b') (.cells #[c, d] 55)
  rw [size2] at hn
  exact ⟨_, _, rfl, rfl, ((h.far hl _ _).far hl _ _).alloc _, hn, blk_alloc (put2 hg) _, by omega, by omega, by omega⟩
theorem cmp_e3 {w w2 : World} {X Y : Array Value} {g k : Nat} {a' b' c' d' : Value} (h : CmpX w w2 X Y) (hg : w2.heap[g]? = some (.cells #[.int .u64 0, .int .u64 0] 55 (0, 0))) (hk : w2.heap[k]? = some (.cells #[.int .u64 0, .int .u64 0] 55 (0, 0))) (hl : w.heap.size + 1 < g) (hl2 : w.heap.size + 1 < k) (hn : g ≠ k) : CmpP w ((((w2.setCell ⟨g, 0, none⟩ a').setCell ⟨g, 1, none⟩ b').setCell ⟨k, 0, none⟩ c').setCell ⟨k, 1, none⟩ d') X Y #[a', b'] #[c', d'] (.pointer (some ⟨g, 0, none⟩)) (.pointer (some ⟨k, 0, none⟩)) :=
  ⟨_, _, rfl, rfl, (((h.far hl _ _).far hl _ _).far hl2 _ _).far hl2 _ _, far2 (put2 hg) hn, put2 (far2 hk (Ne.symm hn)), hn, hl, hl2⟩
set_option maxHeartbeats 8000000 in
set_option maxRecDepth 100000 in
theorem compare_main (m e n f S : Int) (w : World) (hm1 : ∀ w, Calls Try.prog 67 #[.int .i64 m] w fun e w' => e = .returned (.int .i64 S) ∧ w' = w) (hn1 : ∀ w, Calls Try.prog 67 #[.int .i64 n] w fun e w' => e = .returned (.int .i64 S) ∧ w' = w) (hz : S = 1 ∨ S = -1) (he : I64 e) (hf : I64 f) (u v : Int) (hmu : Ret 46 #[.int .i64 m] (.agg #[.int .u64 0, .int .u64 u])) (hnv : Ret 46 #[.int .i64 n] (.agg #[.int .u64 0, .int .u64 v])) (r : Int)
    (m' e' n' f' u' v' t c C0 C1 P : Int) (k : Nat) (hP : P = 1 ∨ P = -1) (hP2 : IntKind.i64.wrap (S * t) = P) (hy : e < f → m' = n ∧ e' = f ∧ n' = m ∧ f' = e ∧ u' = v ∧ v' = u ∧ t = -1) (hno : ¬ e < f → m' = m ∧ e' = e ∧ n' = n ∧ f' = f ∧ u' = u ∧ v' = v ∧ t = 1)
    (hfar : 19 < e' - f' → r = P) (hnear : ¬ 19 < e' - f' → reals_wide_scaled.f k 0 u' (e' - f') = some (C0, C1) ∧ reals_wide_compare.f C0 C1 0 v' = some c ∧ (c = -1 ∨ c = 0 ∨ c = 1) ∧ r = P * c) :
    Calls Try.prog 35 #[.agg #[.int .i64 m, .int .i64 e], .agg #[.int .i64 n, .int .i64 f]] w fun en w' => en = .returned (.int .i64 r) ∧ Below w.heap.size w w' := by
  have hu := Try.underlying29
  have hu2 := Try.underlying55
  have t2 : (S == 0) = false := by rw [beq_eq_false_iff_ne]; omega
  have t3 : -1 ≤ S ∧ S ≤ 1 := by omega
  have HZ := Aside0.mk hz
  have HU := Aside0.mk hmu; have HV := Aside0.mk hnv; have HE := Aside0.mk he; have HF := Aside0.mk hf
  have HM1 := Aside0.mk hm1; have HN1 := Aside0.mk hn1
  have HPP := Aside0.mk hP; have HP2 := Aside0.mk hP2; have HY := Aside0.mk hy; have HNO := Aside0.mk hno; have HFAR := Aside0.mk hfar; have HNEAR := Aside0.mk hnear
  clear hmu hnv he hf hz hm1 hn1 hP hP2 hy hno hfar hnear
  go_enter Try.func35, Try.ntmps35
  go_wp2_with fail
  go_quiet ((first | (go_at_call 67; exact Calls.quiet_of_same (HM1.out _)) | (go_at_call 67; exact Calls.quiet_of_same (HN1.out _))))
  go_upto_region 8 with fail
  go_cut [7, 8] (fun s7 s8 wx => CmpP w wx #[.int .i64 m, .int .i64 e] #[.int .i64 n, .int .i64 f] #[.int .u64 0, .int .u64 u] #[.int .u64 0, .int .u64 v] s7 s8)
  case first =>
    have HW0 := Aside0.mk ((cmp_new w #[.int .i64 m, .int .i64 e] #[.int .i64 n, .int .i64 f]).drewN nq)
    generalize (((w.alloc (.cells #[.int .i64 m, .int .i64 e] 29)).alloc (.cells #[.int .i64 n, .int .i64 f] 29)).drewN nq) = w0 at HW0 ⊢
    have hg0 := Aside0.mk (blk_lt HW0.out.y)
    go_region_held3 (fun w' => (w'.cell? ⟨w.heap.size, 0, none⟩ = some (.int .i64 m) ∧ w'.cell? ⟨w.heap.size, 1, none⟩ = some (.int .i64 e) ∧ w'.cell? ⟨w.heap.size + 1, 0, none⟩ = some (.int .i64 n) ∧ w'.cell? ⟨w.heap.size + 1, 1, none⟩ = some (.int .i64 f)) ∧ Aside0 (CmpX w w' #[.int .i64 m, .int .i64 e] #[.int .i64 n, .int .i64 f])) (((try go_split_ands); (refine cmp_s ?_); (repeat (first | (refine Aside0.out ?_; assumption) | refine CmpX.next ?_ hb1 | refine CmpX.next ?_ hb2 | refine CmpX.drew ?_ | refine CmpX.alloc ?_ _ | refine CmpX.far ?_ (by first | exact hg0.out | exact hg1.out | exact hg2.out | exact Nat.lt_succ_of_lt hg0.out | exact Nat.lt_succ_of_lt hg1.out | exact Nat.lt_succ_of_lt hg2.out) _ _)))) (first | (go_at_call 46; (with_reducible refine (at_w HU _).mono ?_); rintro e1 w1 ⟨rfl, hb1⟩; have HW1 : Aside0 (CmpX w w1 #[.int .i64 m, .int .i64 e] #[.int .i64 n, .int .i64 f]) := ⟨by repeat (first | (refine Aside0.out ?_; assumption) | refine CmpX.next ?_ hb1 | refine CmpX.drew ?_ | refine CmpX.alloc ?_ _)⟩; have hg1 := Aside0.mk (blk_lt HW1.out.y); (try have BA := Aside0.mk (blk_below (blk_new _ _) hb1)); (try have BA := Aside0.mk (blk_below (blk_drew (blk_new _ _)) hb1)); (try have BA := Aside0.mk (blk_below (blk_new1 _ _ _) hb1)); (try have BA := Aside0.mk (blk_below (blk_drew (blk_new1 _ _ _)) hb1)); (try have BB := Aside0.mk (blk_below (blk_alloc (blk_new _ _) _) hb1)); (try have BB := Aside0.mk (blk_below (blk_drew (blk_alloc (blk_new _ _) _)) hb1)); (try have la1 := blk_lt BA.out); (try have na1 := Nat.ne_of_gt (blk_lt BA.out)); (try have lb1 := blk_lt BB.out); (try have nb1 := Nat.ne_of_gt (blk_lt BB.out))) | (go_at_call 46; (with_reducible refine (at_w HV _).mono ?_); rintro e1 w2 ⟨rfl, hb2⟩; have HW2 : Aside0 (CmpX w w2 #[.int .i64 m, .int .i64 e] #[.int .i64 n, .int .i64 f]) := ⟨by repeat (first | (refine Aside0.out ?_; assumption) | refine CmpX.next ?_ hb2 | refine CmpX.next ?_ hb1 | refine CmpX.drew ?_ | refine CmpX.alloc ?_ _)⟩; have hg2 := Aside0.mk (blk_lt HW2.out.y); (try have BC := Aside0.mk (blk_below (blk_new _ _) hb2)); (try have BC := Aside0.mk (blk_below (blk_new1 _ _ _) hb2)); (try have BD := Aside0.mk (blk_below (blk_alloc (blk_new _ _) _) hb2)); (try have BE := Aside0.mk (blk_below BA.out hb2)); (try have BE := Aside0.mk (blk_below (blk_alloc BA.out _) hb2)); (try have BF := Aside0.mk (blk_below BB.out hb2)); (try have ca0 := (blk_cell BC.out 0).trans rfl); (try have ca1 := (blk_cell BC.out 1).trans rfl); (try have fa0 := blk_frozen BC.out 0); (try have fa1 := blk_frozen BC.out 1); (try have la := blk_lt BC.out); (try have cb0 := (blk_cell BD.out 0).trans rfl); (try have cb1 := (blk_cell BD.out 1).trans rfl); (try have fb0 := blk_frozen BD.out 0); (try have fb1 := blk_frozen BD.out 1); (try have lb := blk_lt BD.out); (try have cc0 := (blk_cell BE.out 0).trans rfl); (try have cc1 := (blk_cell BE.out 1).trans rfl); (try have fc0 := blk_frozen BE.out 0); (try have fc1 := blk_frozen BE.out 1); (try have lc := blk_lt BE.out); (try have cd0 := (blk_cell BF.out 0).trans rfl); (try have cd1 := (blk_cell BF.out 1).trans rfl); (try have fd0 := blk_frozen BF.out 0); (try have fd1 := blk_frozen BF.out 1); (try have ld := blk_lt BF.out)))
    all_goals (go_wp2_with fail; go_meet)
    all_goals (have h0 := hg0.out; have h1 := hg1.out; have h2 := hg2.out; have q1 := below_size hb1; have q2 := below_size hb2; (try simp at q1); (try simp at q2))
    all_goals (first | (with_reducible exact cmp_e1 HW2.out) | (with_reducible exact cmp_f1 HW2.out) | ((with_reducible refine cmp_e2 HW2.out ?_ ?_) <;> first | omega | exact BC.out | exact BD.out | exact BE.out | exact BF.out) | ((with_reducible refine cmp_f2 HW2.out ?_ ?_) <;> first | omega | exact BC.out | exact BD.out | exact BE.out | exact BF.out) | ((with_reducible refine cmp_e3 HW2.out ?_ ?_ ?_ ?_ ?_) <;> first | omega | exact BC.out | exact BD.out | exact BE.out | exact BF.out))
  case rest =>
    obtain ⟨ga, gb, rfl, rfl, HW⟩ := hcut
    have he := HE.out; have hf := HF.out
    unfold I64 at he hf
    have n0 := HW.n; have n1 := Ne.symm HW.n; have n2 := Nat.ne_of_gt HW.n0; have n3 := Nat.ne_of_gt HW.n1
    have m0 := HW.n0; have m1 := HW.n1
    have HW0 := Aside0.mk HW
    obtain ⟨x0, x1, y0, y1, fx0, fx1, fy0, fy1, a0, a1, b0, b1, fa0, fa1, fb0, fb1⟩ := cmp_cells HW
    clear HW HE HF HU HV HM1 HN1
    go_upto_if 38 with fail
    go_cut [9] (fun s9 wx => s9 = .int .i64 t ∧ Aside0 (CmpW w wx #[.int .i64 m', .int .i64 e'] #[.int .i64 n', .int .i64 f'] #[.int .u64 0, .int .u64 u'] #[.int .u64 0, .int .u64 v'] ga gb))
    case first =>
      by_cases hef : e < f
      · obtain ⟨rfl, rfl, rfl, rfl, rfl, rfl, rfl⟩ := HY.out (by omega)
        go_wp2_with fail
        go_region
        all_goals (go_wp2_with fail; go_meet)
        all_goals exact ⟨rfl, ⟨cmp_swap HW0.out⟩⟩
      · obtain ⟨rfl, rfl, rfl, rfl, rfl, rfl, rfl⟩ := HNO.out (by omega)
        have hef' : decide (e' < f') = false := decide_eq_false hef
        go_wp2_with fail
        go_meet
        exact ⟨rfl, HW0⟩
    case rest =>
      obtain ⟨rfl, HW⟩ := hcut
      clear x0 x1 y0 y1 fx0 fx1 fy0 fy1 a0 a1 b0 b1 fa0 fa1 fb0 fb1
      obtain ⟨x0, x1, y0, y1, fx0, fx1, fy0, fy1, a0, a1, b0, b1, fa0, fa1, fb0, fb1⟩ := cmp_cells HW.out
      have hle : f' ≤ e' := by
        by_cases h : e < f
        · have := HY.out (by omega); omega
        · have := HNO.out (by omega); omega
      have hbd : -9223372036854775808 ≤ f' ∧ e' ≤ 9223372036854775807 := by
        by_cases h : e < f
        · have := HY.out (by omega); omega
        · have := HNO.out (by omega); omega
      have hw : IntKind.u64.wrap (IntKind.u64.wrap e' - IntKind.u64.wrap f') = e' - f' := by simp [IntKind.wrap, IntKind.signed, IntKind.bits]; omega
      clear HY HNO he hf
      have hP2 := HP2.out
      by_cases hd : 19 < e' - f'
      · have hr := HFAR.out hd
        subst hr
        go_wp2_with fail
        go_ret
        exact ⟨rfl, HW.out.c.s⟩
      · obtain ⟨hsc, hcp, hc, hr⟩ := HNEAR.out (by omega)
        have hPP := HPP.out
        have hr2 : IntKind.i64.wrap (P * c) = r := by rw [hr]; rcases hPP with rfl | rfl <;> rcases hc with rfl | rfl | rfl <;> rfl
        have HSC := Aside0.mk hsc; have HCP := Aside0.mk hcp; have HR := Aside0.mk hr2
        have hs : IntKind.i64.wrap (e' - f') = e' - f' := IntWalk.i64_in _ (by omega)
        have hd' : decide (19 < e' - f') = false := decide_eq_false hd
        clear hsc hcp hc hr hPP
        go_upto_region 15 with fail
        go_region_held3 (fun w' => (w'.cell? ⟨ga, 0, none⟩ = some (.int .u64 0) ∧ w'.cell? ⟨ga, 1, none⟩ = some (.int .u64 u') ∧ w'.cell? ⟨gb, 0, none⟩ = some (.int .u64 0) ∧ w'.cell? ⟨gb, 1, none⟩ = some (.int .u64 v') ∧ w'.cell? ⟨w.heap.size, 1, none⟩ = some (.int .i64 e') ∧ w'.cell? ⟨w.heap.size + 1, 1, none⟩ = some (.int .i64 f')) ∧ Aside0 (CmpW w w' #[.int .i64 m', .int .i64 e'] #[.int .i64 n', .int .i64 f'] #[.int .u64 0, .int .u64 u'] #[.int .u64 0, .int .u64 v'] ga gb)) (((try go_split_ands); (refine cmp_t ?_); (repeat (first | (refine Aside0.out ?_; assumption) | refine CmpW.next ?_ hb1 | refine CmpW.next ?_ hb2 | refine CmpW.drew ?_)))) (first | (go_at_call 60; (with_reducible refine (reals_wide_scaled.calls k 0 u' (e' - f') C0 C1 _ HSC.out).mono ?_); rintro e1 w1 ⟨rfl, hb1⟩; have HW1 := Aside0.mk ((CmpW.drew HW.out).next hb1)) | (go_at_call 68; (with_reducible refine (reals_wide_compare.calls C0 C1 0 v' c _ HCP.out).mono ?_); rintro e1 w2 ⟨rfl, hb2⟩; have HW2 := Aside0.mk (HW1.out.next hb2)))
        all_goals go_wp2
        all_goals go_ret
        all_goals exact ⟨rfl, HW2.out.c.s⟩
theorem sgn_P {S T : Int} (h : S = 1 ∨ S = -1) (h2 : T = 1 ∨ T = -1) : (S * T = 1 ∨ S * T = -1) ∧ IntKind.i64.wrap (S * T) = S * T := by
  rcases h with rfl | rfl <;> rcases h2 with rfl | rfl <;> exact ⟨by decide, rfl⟩
theorem c3_bd (a b : Nat) : c3 a b = -1 ∨ c3 a b = 0 ∨ c3 a b = 1 := by unfold c3; split <;> (try split) <;> simp
/-- what the far end of Compare asks -/
theorem cmp_near {m' n' e' f' : Int} (hm : I64 m') (hn : I64 n') (hle : f' ≤ e') (h : ¬ 19 < e' - f') : ∃ C0 C1, reals_wide_scaled.f 40 0 (m'.natAbs : Int) (e' - f') = some (C0, C1) ∧ reals_wide_compare.f C0 C1 0 (n'.natAbs : Int) = some (c3 (m'.natAbs * 10 ^ (e' - f').toNat) n'.natAbs) := by
  unfold I64 at hm hn
  have h1 := hl_small (n := m'.natAbs) (by omega)
  have h2 := hl_small (n := n'.natAbs) (by omega)
  have hp : 10 ^ (e' - f').toNat ≤ 10 ^ 19 := Nat.pow_le_pow_right (by decide) (by omega)
  have hlt : m'.natAbs * 10 ^ (e' - f').toNat < 340282366920938463463374607431768211456 := by
    have h3 : m'.natAbs * 10 ^ (e' - f').toNat ≤ 9223372036854775808 * 10 ^ 19 := Nat.mul_le_mul (by omega) hp
    have h4 : 9223372036854775808 * 10 ^ 19 < 340282366920938463463374607431768211456 := by decide
    exact Nat.lt_of_le_of_lt h3 h4
  refine ⟨hiw (m'.natAbs * 10 ^ (e' - f').toNat), low (m'.natAbs * 10 ^ (e' - f').toNat), ?_, ?_⟩
  · have h5 := scaled_is (n := m'.natAbs) (d := (e' - f').toNat) (by omega) hlt 40 (by omega)
    rw [h1.1, h1.2, show (((e' - f').toNat : Nat) : Int) = e' - f' by omega] at h5; exact h5
  · have h6 := cmp_is (m'.natAbs * 10 ^ (e' - f').toNat) n'.natAbs
    rw [h2.1, h2.2] at h6; exact h6
theorem mag_ret {m : Int} (hm : I64 m) : Ret 46 #[.int .i64 m] (.agg #[.int .u64 0, .int .u64 (m.natAbs : Int)]) := by
  unfold I64 at hm
  have h1 := hl_small (n := m.natAbs) (by omega)
  refine ret_b fun w => reals_magnitude.calls m 0 m.natAbs w ?_
  rw [mag_is hm.1 hm.2, h1.1, h1.2]
set_option maxHeartbeats 4000000 in
set_option maxRecDepth 100000 in
theorem compare_early (m e n f S T r : Int) (w : World) (hm1 : ∀ w, Calls Try.prog 67 #[.int .i64 m] w fun e w' => e = .returned (.int .i64 S) ∧ w' = w) (hn1 : ∀ w, Calls Try.prog 67 #[.int .i64 n] w fun e w' => e = .returned (.int .i64 T) ∧ w' = w) (h : S < T ∧ r = -1 ∨ T < S ∧ r = 1 ∨ S = 0 ∧ T = 0 ∧ r = 0) :
    Calls Try.prog 35 #[.agg #[.int .i64 m, .int .i64 e], .agg #[.int .i64 n, .int .i64 f]] w fun en w' => en = .returned (.int .i64 r) ∧ Below w.heap.size w w' := by
  have hu := Try.underlying29
  have HM1 := Aside0.mk hm1; have HN1 := Aside0.mk hn1
  have HB := Aside0.mk (fun k => ((cmp_new w #[.int .i64 m, .int .i64 e] #[.int .i64 n, .int .i64 f]).drewN k).s)
  clear hm1 hn1
  rcases h with ⟨h, rfl⟩ | ⟨h, rfl⟩ | ⟨rfl, rfl, rfl⟩
  · have h1 : decide (S < T) = true := decide_eq_true h
    go_enter Try.func35, Try.ntmps35
    go_wp2_with fail
    go_quiet ((first | (go_at_call 67; exact Calls.quiet_of_same (HM1.out _)) | (go_at_call 67; exact Calls.quiet_of_same (HN1.out _))))
    go_wp2
    go_ret
    exact ⟨rfl, HB.out _⟩
  · have h1 : decide (S < T) = false := decide_eq_false (by omega)
    have h2 : decide (T < S) = true := decide_eq_true h
    go_enter Try.func35, Try.ntmps35
    go_wp2_with fail
    go_quiet ((first | (go_at_call 67; exact Calls.quiet_of_same (HM1.out _)) | (go_at_call 67; exact Calls.quiet_of_same (HN1.out _))))
    go_wp2
    go_ret
    exact ⟨rfl, HB.out _⟩
  · go_enter Try.func35, Try.ntmps35
    go_wp2_with fail
    go_quiet ((first | (go_at_call 67; exact Calls.quiet_of_same (HM1.out _)) | (go_at_call 67; exact Calls.quiet_of_same (HN1.out _))))
    go_wp2
    go_ret
    exact ⟨rfl, HB.out _⟩
theorem compare_ret (m e n f : Int) (hm : I64 m) (hn : I64 n) (he : I64 e) (hf : I64 f) : Ret 35 #[.agg #[.int .i64 m, .int .i64 e], .agg #[.int .i64 n, .int .i64 f]] (.int .i64 (cmpS m e n f)) := by
  intro w
  have s1 := sg3 m; have s2 := sg3 n
  by_cases h1 : sg m < sg n
  · exact compare_early m e n f (sg m) (sg n) _ w (sign_calls m) (sign_calls n) (.inl ⟨h1, by unfold cmpS; rw [if_pos h1]⟩)
  by_cases h2 : sg m > sg n
  · exact compare_early m e n f (sg m) (sg n) _ w (sign_calls m) (sign_calls n) (.inr (.inl ⟨h2, by unfold cmpS; rw [if_neg h1, if_pos h2]⟩))
  by_cases h3 : m = 0
  · exact compare_early m e n f (sg m) (sg n) _ w (sign_calls m) (sign_calls n) (.inr (.inr ⟨by omega, by omega, by unfold cmpS; rw [if_neg h1, if_neg h2, if_pos h3]⟩))
  have hS : sg m = 1 ∨ sg m = -1 := by omega
  have hr : cmpS m e n f = if e < f then sg m * -1 * cmpA n f m e else sg m * 1 * cmpA m e n f := by unfold cmpS; rw [if_neg h1, if_neg h2, if_neg h3]
  rw [hr]
  by_cases hef : e < f
  · rw [if_pos hef]
    have hP := sgn_P hS (T := -1) (.inr rfl)
    by_cases hd : 19 < f - e
    · refine compare_main m e n f (sg m) w (sign_calls m) (sign_is (by omega)) hS he hf m.natAbs n.natAbs (mag_ret hm) (mag_ret hn) _ n f m e n.natAbs m.natAbs (-1) 0 0 0 _ 40 hP.1 hP.2 (fun _ => ⟨rfl, rfl, rfl, rfl, rfl, rfl, rfl⟩) (fun h => absurd hef h) (fun _ => ?_) (fun h => absurd hd h)
      unfold cmpA; rw [if_pos hd, Int.mul_one]
    · obtain ⟨C0, C1, g1, g2⟩ := cmp_near hn hm (show e ≤ f by omega) hd
      refine compare_main m e n f (sg m) w (sign_calls m) (sign_is (by omega)) hS he hf m.natAbs n.natAbs (mag_ret hm) (mag_ret hn) _ n f m e n.natAbs m.natAbs (-1) _ C0 C1 _ 40 hP.1 hP.2 (fun _ => ⟨rfl, rfl, rfl, rfl, rfl, rfl, rfl⟩) (fun h => absurd hef h) (fun h => absurd h hd) (fun _ => ⟨g1, g2, c3_bd _ _, ?_⟩)
      unfold cmpA; rw [if_neg hd]
  · rw [if_neg hef]
    have hP := sgn_P hS (T := 1) (.inl rfl)
    by_cases hd : 19 < e - f
    · refine compare_main m e n f (sg m) w (sign_calls m) (sign_is (by omega)) hS he hf m.natAbs n.natAbs (mag_ret hm) (mag_ret hn) _ m e n f m.natAbs n.natAbs 1 0 0 0 _ 40 hP.1 hP.2 (fun h => absurd h hef) (fun _ => ⟨rfl, rfl, rfl, rfl, rfl, rfl, rfl⟩) (fun _ => ?_) (fun h => absurd hd h)
      unfold cmpA; rw [if_pos hd, Int.mul_one]
    · obtain ⟨C0, C1, g1, g2⟩ := cmp_near hm hn (show f ≤ e by omega) hd
      refine compare_main m e n f (sg m) w (sign_calls m) (sign_is (by omega)) hS he hf m.natAbs n.natAbs (mag_ret hm) (mag_ret hn) _ m e n f m.natAbs n.natAbs 1 _ C0 C1 _ 40 hP.1 hP.2 (fun h => absurd h hef) (fun _ => ⟨rfl, rfl, rfl, rfl, rfl, rfl, rfl⟩) (fun h => absurd h hd) (fun _ => ⟨g1, g2, c3_bd _ _, ?_⟩)
      unfold cmpA; rw [if_neg hd]
end Go.Proofs.Ytamkjpjibkabaaa.PR
