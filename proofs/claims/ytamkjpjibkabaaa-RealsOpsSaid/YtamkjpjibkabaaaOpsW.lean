import Derived.Test.YtamkjpjibkabaaaPRHw
namespace Go.Proofs.Ytamkjpjibkabaaa.PR
open Go.RowKit Go.Proofs.YtamkjpjibkabaaaW.PrintWords Go.Proofs.YtamkjpjibkabaaaW.PrintLast Go.Proofs.YtamkjpjibkabaaaW.PrintMore
set_option linter.unusedVariables false
set_option linter.unusedSimpArgs false
/-- the call of function f with these values returns v, and nothing that was there has changed -/
def Ret (f : Nat) (args : Array Value) (v : Value) : Prop := ∀ w, Calls Try.prog f args w fun e w' => e = .returned v ∧ Below w.heap.size w w'
theorem ret_b {f : Nat} {args : Array Value} {v : Value} (h : ∀ w, Calls Try.prog f args w fun e w' => e = .returned v ∧ Below w.heap.size w w') : Ret f args v := h
theorem ret_d {f : Nat} {args : Array Value} {v : Value} (h : ∀ w, Calls Try.prog f args w fun e w' => e = .returned v ∧ Drawn0 w w') : Ret f args v := fun w => (h w).mono fun _ _ ⟨he, hd⟩ => ⟨he, hd.below⟩
theorem ret_s {f : Nat} {args : Array Value} {v : Value} (h : ∀ w, Calls Try.prog f args w fun e w' => e = .returned v ∧ w = w') : Ret f args v := fun w => (h w).mono fun _ _ ⟨he, hd⟩ => ⟨he, hd ▸ Below.refl _ _⟩
theorem ret_n {f : Nat} {args : Array Value} {v : Value} (h : ∀ w, Calls Try.prog f args w fun e w' => e = .returned v ∧ ∃ n, w' = w.drewN n) : Ret f args v := fun w => (h w).mono fun _ _ ⟨he, n, hd⟩ => ⟨he, hd ▸ pw_below_drewN (Below.refl _ _) n⟩
theorem at_w {f : Nat} {args : Array Value} {v : Value} (h : Aside0 (Ret f args v)) (w : World) : Calls Try.prog f args w fun e w' => e = .returned v ∧ Below w.heap.size w w' := h.out w
def OneP (M E er : Int) (w : World) (en : Ending) (w' : World) : Prop := ∃ p q : Nat, en = .returned (.func (Fn.func 49) #[] #[.pointer (some ⟨p, 0, none⟩), .pointer (some ⟨q, 0, none⟩)]) ∧ w'.heap[p]? = some (.cells #[.int .i64 M, .int .i64 E] 29 (0, 0)) ∧ w'.heap[q]? = some (.cells #[.int .i64 er] 25 (0, 0)) ∧ Below w.heap.size w w'
set_option maxHeartbeats 1000000 in
theorem one_calls (M E er : Int) (w : World) : Calls Try.prog 16 #[.agg #[.int .i64 M, .int .i64 E], .int .i64 er] w (OneP M E er w) := by
  have hu := Try.underlying29
  have B1 := Aside0.mk (blk_alloc (blk_new w (.cells #[.int .i64 M, .int .i64 E] 29 (0, 0))) (.cells #[.int .i64 er] 25 (0, 0)))
  have B2 := Aside0.mk (blk_new (w.alloc (.cells #[.int .i64 M, .int .i64 E] 29 (0, 0))) (.cells #[.int .i64 er] 25 (0, 0)))
  have B3 := Aside0.mk (below_alloc (below_alloc (Below.refl w.heap.size w) (.cells #[.int .i64 M, .int .i64 E] 29 (0, 0))) (.cells #[.int .i64 er] 25 (0, 0)))
  go_enter Try.func16, Try.ntmps16
  go_wp2
  go_ret
  exact ⟨w.heap.size, w.heap.size + 1, rfl, B1.out, by have := B2.out; simpa using this, B3.out⟩
set_option maxHeartbeats 1000000 in
theorem one1_yes (p q : Nat) (M E er : Int) (w : World) (hp : w.heap[p]? = some (.cells #[.int .i64 M, .int .i64 E] 29 (0, 0))) (hq : w.heap[q]? = some (.cells #[.int .i64 er] 25 (0, 0))) : Calls Try.prog 49 #[.agg #[.int .i64 M, .int .i64 E], .int .i64 er, .pointer (some ⟨p, 0, none⟩), .pointer (some ⟨q, 0, none⟩)] w fun en w' => en = .returned (.bool true) ∧ Below w.heap.size w w' := by
  have hu := Try.underlying29
  have c0 : w.cell? ⟨p, 0, none⟩ = some (.int .i64 M) := (blk_cell hp 0).trans rfl
  have c1 : w.cell? ⟨p, 1, none⟩ = some (.int .i64 E) := (blk_cell hp 1).trans rfl
  have c2 : w.cell? ⟨q, 0, none⟩ = some (.int .i64 er) := (blk_cell hq 0).trans rfl
  have lp := blk_lt hp
  have lq := blk_lt hq
  have B := Aside0.mk (Below.refl w.heap.size w)
  clear hp hq
  go_enter Try.func49, Try.ntmps49
  go_wp2
  go_ret
  exact ⟨rfl, below_alloc B.out _⟩
theorem pu2 {P : Program} {ops : Array Oper} {Q : Exit → Act → World → Prop} {md : Region.Mode} {S : World → Prop} {ds : List Nat} {T : Bool × List (List Nat × List Nat)} {oi : Oper} {v : Value} {fuel : Nat} {l : Array Bool} {a a' : Act} {w : World} (i N : Nat) (l' : Array Bool) (HT : Aside0 (rtab md ops = T)) (h : wpAnyLast P md ops Q S ds fuel l' a' w)
    (hi : ops[i]? = some oi := by rfl) (hN : oi.dst = some N := by rfl) (hc : anyT T l.toList l'.toList i = true := by as_aux_lemma => kernel_rfl) (hQ : ∀ c a w, Q (.panic c) (a.put oi.dst v) w → Q (.panic c) a w := by exact fun _ _ _ h => h)
    (hw : Region.wanted oi (yielded ops a.tmps) = true := by as_aux_lemma => kernel_rfl) (hy : ∀ w, (execOp a.eval oi).run P w = .ok (.value v) w := by intro w'; go_simp; with_reducible rfl)
    (ha : a.put (some N) v = a' := by simp only [sx, i64_w, i32_w]; rfl) : wpAnyLast P md ops Q S ds (fuel + 1) l a w := pure_ l' hi hN (any_of HT.out hc) hQ (.inl ⟨hw, hy⟩) ha h
theorem ta2 {P : Program} {ops : Array Oper} {Q : Exit → Act → World → Prop} {md : Region.Mode} {S : World → Prop} {ds : List Nat} {T : Bool × List (List Nat × List Nat)} {B : List Nat} {oi : Oper} {v : Value} {fuel : Nat} {l : Array Bool} {a a' : Act} {w : World} (i N : Nat) (l' : Array Bool) (HT : Aside0 (rtab md ops = T)) (HW : Aside0 (waitsOk T.2 B = true)) (hS : S w) (h : wpAnyLast P md ops Q S ds fuel l' a' w)
    (hi : ops[i]? = some oi := by rfl) (hN : oi.dst = some N := by rfl) (hc : takeW T B ds l.toList l'.toList i = true := by as_aux_lemma => kernel_rfl) (hQ : ∀ c a w, Q (.panic c) (a.put oi.dst v) w → Q (.panic c) a w := by exact fun _ _ _ h => h)
    (hw : Region.wanted oi (yielded ops a.tmps) = true := by as_aux_lemma => kernel_rfl) (hy : ∀ w, S w → (execOp a.eval oi).run P w = .ok (.value v) w := by intro w' hS; (try dsimp only at hS); go_simp; with_reducible rfl)
    (ha : a.put (some N) v = a' := by simp only [sx, i64_w, i32_w]; rfl) : wpAnyLast P md ops Q S ds (fuel + 1) l a w := take_ l' hi hN (take_ofW HT.out HW.out hc) hQ (.inl ⟨hw, hy⟩) hS ha h
def ops_T : Bool × List (List Nat × List Nat) := (true, [([], []), ([], []), ([], []), ([], []), ([0, 1, 2, 3], [0, 1, 2, 3]), ([4], [4]), ([4], [4]), ([5, 6, 4], [5, 6]), ([], []), ([], []), ([], []), ([], []), ([8, 9, 10, 11, 7], [8, 9, 10, 11]), ([12], [12]), ([12], [12]), ([7, 13, 14, 12], [7, 13, 14]), ([15, 15], [15]), ([16], [16]), ([16], [16]), ([16], [16]), ([16], [16]), ([17, 18, 19, 20, 16, 16], [16, 17, 18, 19, 20]), ([21, 16], [16, 21]), ([21, 16], [16, 21]), ([22, 23, 21, 16], [16, 22, 23]), ([16], [16]), ([16], [16]), ([16], [16]), ([16], [16]), ([25, 26, 27, 28, 24, 16], [16, 25, 26, 27, 28]), ([29, 16], [16, 29]), ([29, 16], [16, 29]), ([24, 30, 31, 29, 16], [16, 24, 30, 31]), ([16, 32], [16, 32]), ([33, 32], [33]), ([34], [34]), ([34], [34]), ([34], [34]), ([34], [34]), ([35, 36, 37, 38, 34, 34], [34, 35, 36, 37, 38]), ([39, 34], [34, 39]), ([39, 34], [34, 39]), ([40, 41, 39, 34], [34, 40, 41]), ([34], [34]), ([34], [34]), ([34], [34]), ([34], [34]), ([43, 44, 45, 46, 42, 34], [34, 43, 44, 45, 46]), ([47, 34], [34, 47]), ([47, 34], [34, 47]), ([42, 48, 49, 47, 34], [34, 42, 48, 49]), ([34, 50], [34, 50]), ([51, 50], [51]), ([52], [52]), ([52], [52]), ([52], [52]), ([52], [52]), ([53, 54, 55, 56, 52, 52], [52, 53, 54, 55, 56]), ([57, 52], [52, 57]), ([57, 52], [52, 57]), ([58, 59, 57, 52], [52, 58, 59]), ([52], [52]), ([52], [52]), ([52], [52]), ([52], [52]), ([61, 62, 63, 64, 60, 52], [52, 61, 62, 63, 64]), ([65, 52], [52, 65]), ([65, 52], [52, 65]), ([60, 66, 67, 65, 52], [52, 60, 66, 67]), ([52, 68], [52, 68]), ([69, 68], [69]), ([70], [70]), ([70], [70]), ([70], [70]), ([71, 72, 73, 70, 70], [70, 71, 72, 73]), ([74, 70], [70, 74]), ([74, 70], [70, 74]), ([75, 76, 74, 70], [70, 75, 76]), ([70], [70]), ([70], [70]), ([70], [70]), ([78, 79, 80, 77, 70], [70, 78, 79, 80]), ([81, 70], [70, 81]), ([81, 70], [70, 81]), ([77, 82, 83, 81, 70], [70, 77, 82, 83]), ([70, 84], [70, 84]), ([85, 84], [85]), ([86], [86]), ([86], [86]), ([87, 88, 86, 86], [86, 87, 88]), ([89, 86], [86, 89]), ([89, 86], [86, 89]), ([90, 91, 89, 86], [86, 90, 91]), ([86], [86]), ([86], [86]), ([93, 94, 92, 86], [86, 93, 94]), ([95, 86], [86, 95]), ([95, 86], [86, 95]), ([92, 96, 97, 95, 86], [86, 92, 96, 97]), ([86, 98], [86, 98]), ([99, 98], [99]), ([100], [100]), ([100], [100]), ([101, 102, 100, 100], [100, 101, 102]), ([103, 100], [100, 103]), ([103, 100], [100, 103]), ([104, 105, 103, 100], [100, 104, 105]), ([100], [100]), ([100], [100]), ([107, 108, 106, 100], [100, 107, 108]), ([109, 100], [100, 109]), ([109, 100], [100, 109]), ([106, 110, 111, 109, 100], [100, 106, 110, 111]), ([100, 112], [100, 112]), ([113, 112, 0, 1, 2, 3, 4, 5, 6, 7, 8, 9, 10, 11, 12, 13, 14, 15, 16, 17, 18, 19, 20, 21, 22, 23, 24, 25, 26, 27, 28, 29, 30, 31, 32, 33, 34, 35, 36, 37, 38, 39, 40, 41, 42, 43, 44, 45, 46, 47, 48, 49, 50, 51, 52, 53, 54, 55, 56, 57, 58, 59, 60, 61, 62, 63, 64, 65, 66, 67, 68, 69, 70, 71, 72, 73, 74, 75, 76, 77, 78, 79, 80, 81, 82, 83, 84, 85, 86, 87, 88, 89, 90, 91, 92, 93, 94, 95, 96, 97, 98, 99, 100, 101, 102, 103, 104, 105, 106, 107, 108, 109, 110, 111, 112, 113], [113])])
def ops_B : List Nat := [0, 0, 0, 0, 15, 31, 31, 127, 0, 0, 0, 0, 4095, 8191, 8191, 32767, 65535, 131071, 131071, 131071, 131071, 2097151, 4194303, 4194303, 16777215, 131071, 131071, 131071, 131071, 536870911, 1073741823, 1073741823, 4294967295, 8589934591, 17179869183, 34359738367, 34359738367, 34359738367, 34359738367, 549755813887, 1099511627775, 1099511627775, 4398046511103, 34359738367, 34359738367, 34359738367, 34359738367, 140737488355327, 281474976710655, 281474976710655, 1125899906842623, 2251799813685247, 4503599627370495, 9007199254740991, 9007199254740991, 9007199254740991, 9007199254740991, 144115188075855871, 288230376151711743, 288230376151711743, 1152921504606846975, 9007199254740991, 9007199254740991, 9007199254740991, 9007199254740991, 36893488147419103231, 73786976294838206463, 73786976294838206463, 295147905179352825855, 590295810358705651711, 1180591620717411303423, 2361183241434822606847, 2361183241434822606847, 2361183241434822606847, 18889465931478580854783, 37778931862957161709567, 37778931862957161709567, 151115727451828646838271, 2361183241434822606847, 2361183241434822606847, 2361183241434822606847, 2417851639229258349412351, 4835703278458516698824703, 4835703278458516698824703, 19342813113834066795298815, 38685626227668133590597631, 77371252455336267181195263, 154742504910672534362390527, 154742504910672534362390527, 618970019642690137449562111, 1237940039285380274899124223, 1237940039285380274899124223, 4951760157141521099596496895, 154742504910672534362390527, 154742504910672534362390527, 39614081257132168796771975167, 79228162514264337593543950335, 79228162514264337593543950335, 316912650057057350374175801343, 633825300114114700748351602687, 1267650600228229401496703205375, 2535301200456458802993406410751, 2535301200456458802993406410751, 10141204801825835211973625643007, 20282409603651670423947251286015, 20282409603651670423947251286015, 81129638414606681695789005144063, 2535301200456458802993406410751, 2535301200456458802993406410751, 649037107316853453566312041152511, 1298074214633706907132624082305023, 1298074214633706907132624082305023, 5192296858534827628530496329220095, 10384593717069655257060992658440191, 20769187434139310514121985316880383]
theorem ops_new (w : World) (s h xm xe ym ye : Int) : Bxs w (((w.alloc (.cells #[.int .i64 s, .int .i64 h] 23)).alloc (.cells #[.int .i64 xm, .int .i64 xe] 29)).alloc (.cells #[.int .i64 ym, .int .i64 ye] 29)) [(w.heap.size + 1 + 1, #[.int .i64 ym, .int .i64 ye], 29), (w.heap.size + 1, #[.int .i64 xm, .int .i64 xe], 29), (w.heap.size, #[.int .i64 s, .int .i64 h], 23)] := by
  have h := (((bxs_nil w).push #[.int .i64 s, .int .i64 h] 23).push #[.int .i64 xm, .int .i64 xe] 29).push #[.int .i64 ym, .int .i64 ye] 29
  simpa using h
theorem ops_s {w w' : World} {s h xm xe ym ye : Int} (hh : Bxs w w' [(w.heap.size + 1 + 1, #[.int .i64 ym, .int .i64 ye], 29), (w.heap.size + 1, #[.int .i64 xm, .int .i64 xe], 29), (w.heap.size, #[.int .i64 s, .int .i64 h], 23)]) : (w'.cell? ⟨w.heap.size, 0, none⟩ = some (.int .i64 s) ∧ w'.cell? ⟨w.heap.size, 1, none⟩ = some (.int .i64 h) ∧ w'.cell? ⟨w.heap.size + 1, 0, none⟩ = some (.int .i64 xm) ∧ w'.cell? ⟨w.heap.size + 1, 1, none⟩ = some (.int .i64 xe) ∧ w'.cell? ⟨w.heap.size + 1 + 1, 0, none⟩ = some (.int .i64 ym) ∧ w'.cell? ⟨w.heap.size + 1 + 1, 1, none⟩ = some (.int .i64 ye)) ∧ Aside0 (Bxs w w' [(w.heap.size + 1 + 1, #[.int .i64 ym, .int .i64 ye], 29), (w.heap.size + 1, #[.int .i64 xm, .int .i64 xe], 29), (w.heap.size, #[.int .i64 s, .int .i64 h], 23)]) := by
  obtain ⟨a, b⟩ := c2 hh.get; obtain ⟨c, d⟩ := c2 hh.tail.get; obtain ⟨e, f⟩ := c2 hh.tail.tail.get
  exact ⟨⟨e, f, c, d, a, b⟩, ⟨hh⟩⟩
set_option maxHeartbeats 16000000 in
set_option maxRecDepth 100000 in
theorem ops_walk (s h xm xe ym ye M0 E0 c0 M1 E1 c1 M2 E2 c2 M3 E3 c3 M4 E4 c4 M5 E5 c5 M6 E6 c6 : Int) (w : World) (h11 : Ret 11 #[] (.bool true))
    (hp0 : Ret 21 #[.int .i64 s, .int .i64 h, .agg #[.int .i64 xm, .int .i64 xe], .agg #[.int .i64 ym, .int .i64 ye]] (.tuple #[.agg #[.int .i64 M0, .int .i64 E0], .int .i64 c0])) (hr0 : Ret 22 #[.int .i64 s, .int .i64 h, .agg #[.int .i64 xm, .int .i64 xe], .agg #[.int .i64 ym, .int .i64 ye]] (.tuple #[.agg #[.int .i64 M0, .int .i64 E0], .int .i64 c0]))
    (hp1 : Ret 23 #[.int .i64 s, .int .i64 h, .agg #[.int .i64 xm, .int .i64 xe], .agg #[.int .i64 ym, .int .i64 ye]] (.tuple #[.agg #[.int .i64 M1, .int .i64 E1], .int .i64 c1])) (hr1 : Ret 24 #[.int .i64 s, .int .i64 h, .agg #[.int .i64 xm, .int .i64 xe], .agg #[.int .i64 ym, .int .i64 ye]] (.tuple #[.agg #[.int .i64 M1, .int .i64 E1], .int .i64 c1]))
    (hp2 : Ret 25 #[.int .i64 s, .int .i64 h, .agg #[.int .i64 xm, .int .i64 xe], .agg #[.int .i64 ym, .int .i64 ye]] (.tuple #[.agg #[.int .i64 M2, .int .i64 E2], .int .i64 c2])) (hr2 : Ret 26 #[.int .i64 s, .int .i64 h, .agg #[.int .i64 xm, .int .i64 xe], .agg #[.int .i64 ym, .int .i64 ye]] (.tuple #[.agg #[.int .i64 M2, .int .i64 E2], .int .i64 c2]))
    (hp3 : Ret 27 #[.int .i64 s, .int .i64 h, .agg #[.int .i64 xm, .int .i64 xe], .agg #[.int .i64 ym, .int .i64 ye]] (.tuple #[.agg #[.int .i64 M3, .int .i64 E3], .int .i64 c3])) (hr3 : Ret 28 #[.int .i64 s, .int .i64 h, .agg #[.int .i64 xm, .int .i64 xe], .agg #[.int .i64 ym, .int .i64 ye]] (.tuple #[.agg #[.int .i64 M3, .int .i64 E3], .int .i64 c3]))
    (hp4 : Ret 29 #[.int .i64 s, .int .i64 h, .agg #[.int .i64 xm, .int .i64 xe]] (.tuple #[.agg #[.int .i64 M4, .int .i64 E4], .int .i64 c4])) (hr4 : Ret 30 #[.int .i64 s, .int .i64 h, .agg #[.int .i64 xm, .int .i64 xe]] (.tuple #[.agg #[.int .i64 M4, .int .i64 E4], .int .i64 c4]))
    (hp5 : Ret 31 #[.int .i64 s, .agg #[.int .i64 xm, .int .i64 xe]] (.tuple #[.agg #[.int .i64 M5, .int .i64 E5], .int .i64 c5])) (hr5 : Ret 32 #[.int .i64 s, .agg #[.int .i64 xm, .int .i64 xe]] (.tuple #[.agg #[.int .i64 M5, .int .i64 E5], .int .i64 c5]))
    (hp6 : Ret 33 #[.int .i64 s, .agg #[.int .i64 xm, .int .i64 xe]] (.tuple #[.agg #[.int .i64 M6, .int .i64 E6], .int .i64 c6])) (hr6 : Ret 34 #[.int .i64 s, .agg #[.int .i64 xm, .int .i64 xe]] (.tuple #[.agg #[.int .i64 M6, .int .i64 E6], .int .i64 c6]))
    : Calls Try.prog 5 #[.agg #[.int .i64 s, .int .i64 h], .agg #[.int .i64 xm, .int .i64 xe], .agg #[.int .i64 ym, .int .i64 ye]] w fun e w' => e = .returned (.bool true) ∧ Below w.heap.size w w' := by
  have hu := Try.underlying29
  have hu2 := Try.underlying23
  have H11 := Aside0.mk h11
  have HP0 := Aside0.mk hp0; have HR0 := Aside0.mk hr0
  have HP1 := Aside0.mk hp1; have HR1 := Aside0.mk hr1
  have HP2 := Aside0.mk hp2; have HR2 := Aside0.mk hr2
  have HP3 := Aside0.mk hp3; have HR3 := Aside0.mk hr3
  have HP4 := Aside0.mk hp4; have HR4 := Aside0.mk hr4
  have HP5 := Aside0.mk hp5; have HR5 := Aside0.mk hr5
  have HP6 := Aside0.mk hp6; have HR6 := Aside0.mk hr6
  clear h11 hp0 hr0 hp1 hr1 hp2 hr2 hp3 hr3 hp4 hr4 hp5 hr5 hp6 hr6
  have HX := Aside0.mk (ops_new w s h xm xe ym ye)
  go_enter Try.func5, Try.ntmps5
  go_wp2_with fail
  refine (at_w H11 _).mono ?_
  rintro e1 w1 ⟨rfl, hb⟩
  have Y0 := Aside0.mk (HX.out.next hb); clear hb HX
  obtain ⟨⟨x0, x1, x2, x3, x4, x5⟩, _⟩ := ops_s Y0.out
  go_wp2_with fail
  go_quiet (fail)
  have YQ := Aside0.mk (Y0.out.drewN nq); clear Y0 x0 x1 x2 x3 x4 x5
  generalize w1.drewN nq = w2 at YQ ⊢
  have Y0 := YQ
  clear YQ
  obtain ⟨⟨x0, x1, x2, x3, x4, x5⟩, _⟩ := ops_s Y0.out
  go_upto_region 4 with fail
  dsimp only [List.append]
  refine start_ (n := 115) (S := (fun w' => (w'.cell? ⟨w.heap.size, 0, none⟩ = some (.int .i64 s) ∧ w'.cell? ⟨w.heap.size, 1, none⟩ = some (.int .i64 h) ∧ w'.cell? ⟨w.heap.size + 1, 0, none⟩ = some (.int .i64 xm) ∧ w'.cell? ⟨w.heap.size + 1, 1, none⟩ = some (.int .i64 xe) ∧ w'.cell? ⟨w.heap.size + 1 + 1, 0, none⟩ = some (.int .i64 ym) ∧ w'.cell? ⟨w.heap.size + 1 + 1, 1, none⟩ = some (.int .i64 ye)) ∧ Aside0 (Bxs w w' [(w.heap.size + 1 + 1, #[.int .i64 ym, .int .i64 ye], 29), (w.heap.size + 1, #[.int .i64 xm, .int .i64 xe], 29), (w.heap.size, #[.int .i64 s, .int .i64 h], 23)]))) (ds := []) (bl 115 0) (by kernel_rfl) (by kernel_rfl) (by kernel_rfl) (ops_s Y0.out.drew) (fun hHeld => ?_)
  refine with_tabW (T := ops_T) (B := ops_B) (by as_aux_lemma => kernel_rfl) (by as_aux_lemma => kernel_rfl) (fun HT_ HW_ => ?_)
  refine pu2 0 15 (bl 115 0x1) HT_ ?_
  refine pu2 1 16 (bl 115 0x3) HT_ ?_
  refine ta2 2 17 (bl 115 0x7) HT_ HW_ hHeld ?_
  refine ta2 3 18 (bl 115 0xf) HT_ HW_ hHeld ?_
  refine pu2 8 23 (bl 115 0x10f) HT_ ?_
  refine pu2 9 24 (bl 115 0x30f) HT_ ?_
  refine ta2 10 25 (bl 115 0x70f) HT_ HW_ hHeld ?_
  refine ta2 11 26 (bl 115 0xf0f) HT_ HW_ hHeld ?_
  refine one_ (i := 4) (N := some 19) (bl 115 0xf1f) rfl rfl (one_of HT_.out (by as_aux_lemma => kernel_rfl)) (by decide) (fun K hK => ?_)
  rw [if_pos (by as_aux_lemma => kernel_rfl)]
  go_simp
  (go_at_call 21; (with_reducible refine (at_w HP0 _).mono ?_); rintro e1 v1 ⟨rfl, hb⟩; have Y1 := Aside0.mk (Y0.out.drew.next hb); clear hb)
  refine hK.out _ _ (ops_s Y1.out) (fun hHeld => ?_)
  clear hK K
  refine pu2 5 20 (bl 115 0xf3f) HT_ ?_
  refine pu2 6 21 (bl 115 0xf7f) HT_ ?_
  refine one_ (i := 7) (N := some 22) (bl 115 0xfff) rfl rfl (one_of HT_.out (by as_aux_lemma => kernel_rfl)) (by decide) (fun K hK => ?_)
  rw [if_pos (by as_aux_lemma => kernel_rfl)]
  go_simp
  (go_at_call 16; (with_reducible refine (one_calls M0 E0 c0 _).mono ?_); rintro e1 v2 ⟨gp0, gq0, rfl, hp, hq, hb⟩; have P0 := Aside0.mk hp; have Q0 := Aside0.mk hq; have Y2 := Aside0.mk (Y1.out.next hb); clear hb hp hq)
  refine hK.out _ _ (ops_s Y2.out) (fun hHeld => ?_)
  clear hK K
  refine one_ (i := 12) (N := some 27) (bl 115 0x1fff) rfl rfl (one_of HT_.out (by as_aux_lemma => kernel_rfl)) (by decide) (fun K hK => ?_)
  rw [if_pos (by as_aux_lemma => kernel_rfl)]
  go_simp
  (go_at_call 22; (with_reducible refine (at_w HR0 _).mono ?_); rintro e1 v3 ⟨rfl, hb⟩; have Y3 := Aside0.mk (Y2.out.next hb); have P0b := Aside0.mk (blk_below P0.out hb); have Q0b := Aside0.mk (blk_below Q0.out hb); clear hb)
  refine hK.out _ _ (ops_s Y3.out) (fun hHeld => ?_)
  clear hK K
  refine pu2 13 28 (bl 115 0x3fff) HT_ ?_
  refine pu2 14 29 (bl 115 0x7fff) HT_ ?_
  refine one_ (i := 15) (N := some 30) (bl 115 0xffff) rfl rfl (one_of HT_.out (by as_aux_lemma => kernel_rfl)) (by decide) (fun K hK => ?_)
  rw [if_pos (by as_aux_lemma => kernel_rfl)]
  go_simp
  (go_at_call 49; (with_reducible refine (one1_yes gp0 gq0 M0 E0 c0 _ P0b.out Q0b.out).mono ?_); rintro e1 v4 ⟨rfl, hb⟩; have Y4 := Aside0.mk (Y3.out.next hb); clear hb P0 Q0 P0b Q0b)
  refine hK.out _ _ (ops_s Y4.out) (fun hHeld => ?_)
  clear hK K
  refine pu2 16 31 (bl 115 0x1ffff) HT_ ?_
  refine pu2 17 32 (bl 115 0x3ffff) HT_ ?_
  refine pu2 18 33 (bl 115 0x7ffff) HT_ ?_
  refine ta2 19 34 (bl 115 0xfffff) HT_ HW_ hHeld ?_
  refine ta2 20 35 (bl 115 0x1fffff) HT_ HW_ hHeld ?_
  refine pu2 25 40 (bl 115 0x21fffff) HT_ ?_
  refine pu2 26 41 (bl 115 0x61fffff) HT_ ?_
  refine ta2 27 42 (bl 115 0xe1fffff) HT_ HW_ hHeld ?_
  refine ta2 28 43 (bl 115 0x1e1fffff) HT_ HW_ hHeld ?_
  refine one_ (i := 21) (N := some 36) (bl 115 0x1e3fffff) rfl rfl (one_of HT_.out (by as_aux_lemma => kernel_rfl)) (by decide) (fun K hK => ?_)
  rw [if_pos (by as_aux_lemma => kernel_rfl)]
  go_simp
  (go_at_call 23; (with_reducible refine (at_w HP1 _).mono ?_); rintro e1 v5 ⟨rfl, hb⟩; have Y5 := Aside0.mk (Y4.out.next hb); clear hb)
  refine hK.out _ _ (ops_s Y5.out) (fun hHeld => ?_)
  clear hK K
  refine pu2 22 37 (bl 115 0x1e7fffff) HT_ ?_
  refine pu2 23 38 (bl 115 0x1effffff) HT_ ?_
  refine one_ (i := 24) (N := some 39) (bl 115 0x1fffffff) rfl rfl (one_of HT_.out (by as_aux_lemma => kernel_rfl)) (by decide) (fun K hK => ?_)
  rw [if_pos (by as_aux_lemma => kernel_rfl)]
  go_simp
  (go_at_call 16; (with_reducible refine (one_calls M1 E1 c1 _).mono ?_); rintro e1 v6 ⟨gp1, gq1, rfl, hp, hq, hb⟩; have P1 := Aside0.mk hp; have Q1 := Aside0.mk hq; have Y6 := Aside0.mk (Y5.out.next hb); clear hb hp hq)
  refine hK.out _ _ (ops_s Y6.out) (fun hHeld => ?_)
  clear hK K
  refine one_ (i := 29) (N := some 44) (bl 115 0x3fffffff) rfl rfl (one_of HT_.out (by as_aux_lemma => kernel_rfl)) (by decide) (fun K hK => ?_)
  rw [if_pos (by as_aux_lemma => kernel_rfl)]
  go_simp
  (go_at_call 24; (with_reducible refine (at_w HR1 _).mono ?_); rintro e1 v7 ⟨rfl, hb⟩; have Y7 := Aside0.mk (Y6.out.next hb); have P1b := Aside0.mk (blk_below P1.out hb); have Q1b := Aside0.mk (blk_below Q1.out hb); clear hb)
  refine hK.out _ _ (ops_s Y7.out) (fun hHeld => ?_)
  clear hK K
  refine pu2 30 45 (bl 115 0x7fffffff) HT_ ?_
  refine pu2 31 46 (bl 115 0xffffffff) HT_ ?_
  refine one_ (i := 32) (N := some 47) (bl 115 0x1ffffffff) rfl rfl (one_of HT_.out (by as_aux_lemma => kernel_rfl)) (by decide) (fun K hK => ?_)
  rw [if_pos (by as_aux_lemma => kernel_rfl)]
  go_simp
  (go_at_call 49; (with_reducible refine (one1_yes gp1 gq1 M1 E1 c1 _ P1b.out Q1b.out).mono ?_); rintro e1 v8 ⟨rfl, hb⟩; have Y8 := Aside0.mk (Y7.out.next hb); clear hb P1 Q1 P1b Q1b)
  refine hK.out _ _ (ops_s Y8.out) (fun hHeld => ?_)
  clear hK K
  refine pu2 33 48 (bl 115 0x3ffffffff) HT_ ?_
  refine pu2 34 49 (bl 115 0x7ffffffff) HT_ ?_
  refine pu2 35 50 (bl 115 0xfffffffff) HT_ ?_
  refine pu2 36 51 (bl 115 0x1fffffffff) HT_ ?_
  refine ta2 37 52 (bl 115 0x3fffffffff) HT_ HW_ hHeld ?_
  refine ta2 38 53 (bl 115 0x7fffffffff) HT_ HW_ hHeld ?_
  refine pu2 43 58 (bl 115 0x87fffffffff) HT_ ?_
  refine pu2 44 59 (bl 115 0x187fffffffff) HT_ ?_
  refine ta2 45 60 (bl 115 0x387fffffffff) HT_ HW_ hHeld ?_
  refine ta2 46 61 (bl 115 0x787fffffffff) HT_ HW_ hHeld ?_
  refine one_ (i := 39) (N := some 54) (bl 115 0x78ffffffffff) rfl rfl (one_of HT_.out (by as_aux_lemma => kernel_rfl)) (by decide) (fun K hK => ?_)
  rw [if_pos (by as_aux_lemma => kernel_rfl)]
  go_simp
  (go_at_call 25; (with_reducible refine (at_w HP2 _).mono ?_); rintro e1 v9 ⟨rfl, hb⟩; have Y9 := Aside0.mk (Y8.out.next hb); clear hb)
  refine hK.out _ _ (ops_s Y9.out) (fun hHeld => ?_)
  clear hK K
  refine pu2 40 55 (bl 115 0x79ffffffffff) HT_ ?_
  refine pu2 41 56 (bl 115 0x7bffffffffff) HT_ ?_
  refine one_ (i := 42) (N := some 57) (bl 115 0x7fffffffffff) rfl rfl (one_of HT_.out (by as_aux_lemma => kernel_rfl)) (by decide) (fun K hK => ?_)
  rw [if_pos (by as_aux_lemma => kernel_rfl)]
  go_simp
  (go_at_call 16; (with_reducible refine (one_calls M2 E2 c2 _).mono ?_); rintro e1 v10 ⟨gp2, gq2, rfl, hp, hq, hb⟩; have P2 := Aside0.mk hp; have Q2 := Aside0.mk hq; have Y10 := Aside0.mk (Y9.out.next hb); clear hb hp hq)
  refine hK.out _ _ (ops_s Y10.out) (fun hHeld => ?_)
  clear hK K
  refine one_ (i := 47) (N := some 62) (bl 115 0xffffffffffff) rfl rfl (one_of HT_.out (by as_aux_lemma => kernel_rfl)) (by decide) (fun K hK => ?_)
  rw [if_pos (by as_aux_lemma => kernel_rfl)]
  go_simp
  (go_at_call 26; (with_reducible refine (at_w HR2 _).mono ?_); rintro e1 v11 ⟨rfl, hb⟩; have Y11 := Aside0.mk (Y10.out.next hb); have P2b := Aside0.mk (blk_below P2.out hb); have Q2b := Aside0.mk (blk_below Q2.out hb); clear hb)
  refine hK.out _ _ (ops_s Y11.out) (fun hHeld => ?_)
  clear hK K
  refine pu2 48 63 (bl 115 0x1ffffffffffff) HT_ ?_
  refine pu2 49 64 (bl 115 0x3ffffffffffff) HT_ ?_
  refine one_ (i := 50) (N := some 65) (bl 115 0x7ffffffffffff) rfl rfl (one_of HT_.out (by as_aux_lemma => kernel_rfl)) (by decide) (fun K hK => ?_)
  rw [if_pos (by as_aux_lemma => kernel_rfl)]
  go_simp
  (go_at_call 49; (with_reducible refine (one1_yes gp2 gq2 M2 E2 c2 _ P2b.out Q2b.out).mono ?_); rintro e1 v12 ⟨rfl, hb⟩; have Y12 := Aside0.mk (Y11.out.next hb); clear hb P2 Q2 P2b Q2b)
  refine hK.out _ _ (ops_s Y12.out) (fun hHeld => ?_)
  clear hK K
  refine pu2 51 66 (bl 115 0xfffffffffffff) HT_ ?_
  refine pu2 52 67 (bl 115 0x1fffffffffffff) HT_ ?_
  refine pu2 53 68 (bl 115 0x3fffffffffffff) HT_ ?_
  refine pu2 54 69 (bl 115 0x7fffffffffffff) HT_ ?_
  refine ta2 55 70 (bl 115 0xffffffffffffff) HT_ HW_ hHeld ?_
  refine ta2 56 71 (bl 115 0x1ffffffffffffff) HT_ HW_ hHeld ?_
  refine pu2 61 76 (bl 115 0x21ffffffffffffff) HT_ ?_
  refine pu2 62 77 (bl 115 0x61ffffffffffffff) HT_ ?_
  refine ta2 63 78 (bl 115 0xe1ffffffffffffff) HT_ HW_ hHeld ?_
  refine ta2 64 79 (bl 115 0x1e1ffffffffffffff) HT_ HW_ hHeld ?_
  refine one_ (i := 57) (N := some 72) (bl 115 0x1e3ffffffffffffff) rfl rfl (one_of HT_.out (by as_aux_lemma => kernel_rfl)) (by decide) (fun K hK => ?_)
  rw [if_pos (by as_aux_lemma => kernel_rfl)]
  go_simp
  (go_at_call 27; (with_reducible refine (at_w HP3 _).mono ?_); rintro e1 v13 ⟨rfl, hb⟩; have Y13 := Aside0.mk (Y12.out.next hb); clear hb)
  refine hK.out _ _ (ops_s Y13.out) (fun hHeld => ?_)
  clear hK K
  refine pu2 58 73 (bl 115 0x1e7ffffffffffffff) HT_ ?_
  refine pu2 59 74 (bl 115 0x1efffffffffffffff) HT_ ?_
  refine one_ (i := 60) (N := some 75) (bl 115 0x1ffffffffffffffff) rfl rfl (one_of HT_.out (by as_aux_lemma => kernel_rfl)) (by decide) (fun K hK => ?_)
  rw [if_pos (by as_aux_lemma => kernel_rfl)]
  go_simp
  (go_at_call 16; (with_reducible refine (one_calls M3 E3 c3 _).mono ?_); rintro e1 v14 ⟨gp3, gq3, rfl, hp, hq, hb⟩; have P3 := Aside0.mk hp; have Q3 := Aside0.mk hq; have Y14 := Aside0.mk (Y13.out.next hb); clear hb hp hq)
  refine hK.out _ _ (ops_s Y14.out) (fun hHeld => ?_)
  clear hK K
  refine one_ (i := 65) (N := some 80) (bl 115 0x3ffffffffffffffff) rfl rfl (one_of HT_.out (by as_aux_lemma => kernel_rfl)) (by decide) (fun K hK => ?_)
  rw [if_pos (by as_aux_lemma => kernel_rfl)]
  go_simp
  (go_at_call 28; (with_reducible refine (at_w HR3 _).mono ?_); rintro e1 v15 ⟨rfl, hb⟩; have Y15 := Aside0.mk (Y14.out.next hb); have P3b := Aside0.mk (blk_below P3.out hb); have Q3b := Aside0.mk (blk_below Q3.out hb); clear hb)
  refine hK.out _ _ (ops_s Y15.out) (fun hHeld => ?_)
  clear hK K
  refine pu2 66 81 (bl 115 0x7ffffffffffffffff) HT_ ?_
  refine pu2 67 82 (bl 115 0xfffffffffffffffff) HT_ ?_
  refine one_ (i := 68) (N := some 83) (bl 115 0x1fffffffffffffffff) rfl rfl (one_of HT_.out (by as_aux_lemma => kernel_rfl)) (by decide) (fun K hK => ?_)
  rw [if_pos (by as_aux_lemma => kernel_rfl)]
  go_simp
  (go_at_call 49; (with_reducible refine (one1_yes gp3 gq3 M3 E3 c3 _ P3b.out Q3b.out).mono ?_); rintro e1 v16 ⟨rfl, hb⟩; have Y16 := Aside0.mk (Y15.out.next hb); clear hb P3 Q3 P3b Q3b)
  refine hK.out _ _ (ops_s Y16.out) (fun hHeld => ?_)
  clear hK K
  refine pu2 69 84 (bl 115 0x3fffffffffffffffff) HT_ ?_
  refine pu2 70 85 (bl 115 0x7fffffffffffffffff) HT_ ?_
  refine pu2 71 86 (bl 115 0xffffffffffffffffff) HT_ ?_
  refine pu2 72 87 (bl 115 0x1ffffffffffffffffff) HT_ ?_
  refine ta2 73 88 (bl 115 0x3ffffffffffffffffff) HT_ HW_ hHeld ?_
  refine pu2 78 93 (bl 115 0x43ffffffffffffffffff) HT_ ?_
  refine pu2 79 94 (bl 115 0xc3ffffffffffffffffff) HT_ ?_
  refine ta2 80 95 (bl 115 0x1c3ffffffffffffffffff) HT_ HW_ hHeld ?_
  refine one_ (i := 74) (N := some 89) (bl 115 0x1c7ffffffffffffffffff) rfl rfl (one_of HT_.out (by as_aux_lemma => kernel_rfl)) (by decide) (fun K hK => ?_)
  rw [if_pos (by as_aux_lemma => kernel_rfl)]
  go_simp
  (go_at_call 29; (with_reducible refine (at_w HP4 _).mono ?_); rintro e1 v17 ⟨rfl, hb⟩; have Y17 := Aside0.mk (Y16.out.next hb); clear hb)
  refine hK.out _ _ (ops_s Y17.out) (fun hHeld => ?_)
  clear hK K
  refine pu2 75 90 (bl 115 0x1cfffffffffffffffffff) HT_ ?_
  refine pu2 76 91 (bl 115 0x1dfffffffffffffffffff) HT_ ?_
  refine one_ (i := 77) (N := some 92) (bl 115 0x1ffffffffffffffffffff) rfl rfl (one_of HT_.out (by as_aux_lemma => kernel_rfl)) (by decide) (fun K hK => ?_)
  rw [if_pos (by as_aux_lemma => kernel_rfl)]
  go_simp
  (go_at_call 16; (with_reducible refine (one_calls M4 E4 c4 _).mono ?_); rintro e1 v18 ⟨gp4, gq4, rfl, hp, hq, hb⟩; have P4 := Aside0.mk hp; have Q4 := Aside0.mk hq; have Y18 := Aside0.mk (Y17.out.next hb); clear hb hp hq)
  refine hK.out _ _ (ops_s Y18.out) (fun hHeld => ?_)
  clear hK K
  refine one_ (i := 81) (N := some 96) (bl 115 0x3ffffffffffffffffffff) rfl rfl (one_of HT_.out (by as_aux_lemma => kernel_rfl)) (by decide) (fun K hK => ?_)
  rw [if_pos (by as_aux_lemma => kernel_rfl)]
  go_simp
  (go_at_call 30; (with_reducible refine (at_w HR4 _).mono ?_); rintro e1 v19 ⟨rfl, hb⟩; have Y19 := Aside0.mk (Y18.out.next hb); have P4b := Aside0.mk (blk_below P4.out hb); have Q4b := Aside0.mk (blk_below Q4.out hb); clear hb)
  refine hK.out _ _ (ops_s Y19.out) (fun hHeld => ?_)
  clear hK K
  refine pu2 82 97 (bl 115 0x7ffffffffffffffffffff) HT_ ?_
  refine pu2 83 98 (bl 115 0xfffffffffffffffffffff) HT_ ?_
  refine one_ (i := 84) (N := some 99) (bl 115 0x1fffffffffffffffffffff) rfl rfl (one_of HT_.out (by as_aux_lemma => kernel_rfl)) (by decide) (fun K hK => ?_)
  rw [if_pos (by as_aux_lemma => kernel_rfl)]
  go_simp
  (go_at_call 49; (with_reducible refine (one1_yes gp4 gq4 M4 E4 c4 _ P4b.out Q4b.out).mono ?_); rintro e1 v20 ⟨rfl, hb⟩; have Y20 := Aside0.mk (Y19.out.next hb); clear hb P4 Q4 P4b Q4b)
  refine hK.out _ _ (ops_s Y20.out) (fun hHeld => ?_)
  clear hK K
  refine pu2 85 100 (bl 115 0x3fffffffffffffffffffff) HT_ ?_
  refine pu2 86 101 (bl 115 0x7fffffffffffffffffffff) HT_ ?_
  refine pu2 87 102 (bl 115 0xffffffffffffffffffffff) HT_ ?_
  refine ta2 88 103 (bl 115 0x1ffffffffffffffffffffff) HT_ HW_ hHeld ?_
  refine pu2 93 108 (bl 115 0x21ffffffffffffffffffffff) HT_ ?_
  refine ta2 94 109 (bl 115 0x61ffffffffffffffffffffff) HT_ HW_ hHeld ?_
  refine one_ (i := 89) (N := some 104) (bl 115 0x63ffffffffffffffffffffff) rfl rfl (one_of HT_.out (by as_aux_lemma => kernel_rfl)) (by decide) (fun K hK => ?_)
  rw [if_pos (by as_aux_lemma => kernel_rfl)]
  go_simp
  (go_at_call 31; (with_reducible refine (at_w HP5 _).mono ?_); rintro e1 v21 ⟨rfl, hb⟩; have Y21 := Aside0.mk (Y20.out.next hb); clear hb)
  refine hK.out _ _ (ops_s Y21.out) (fun hHeld => ?_)
  clear hK K
  refine pu2 90 105 (bl 115 0x67ffffffffffffffffffffff) HT_ ?_
  refine pu2 91 106 (bl 115 0x6fffffffffffffffffffffff) HT_ ?_
  refine one_ (i := 92) (N := some 107) (bl 115 0x7fffffffffffffffffffffff) rfl rfl (one_of HT_.out (by as_aux_lemma => kernel_rfl)) (by decide) (fun K hK => ?_)
  rw [if_pos (by as_aux_lemma => kernel_rfl)]
  go_simp
  (go_at_call 16; (with_reducible refine (one_calls M5 E5 c5 _).mono ?_); rintro e1 v22 ⟨gp5, gq5, rfl, hp, hq, hb⟩; have P5 := Aside0.mk hp; have Q5 := Aside0.mk hq; have Y22 := Aside0.mk (Y21.out.next hb); clear hb hp hq)
  refine hK.out _ _ (ops_s Y22.out) (fun hHeld => ?_)
  clear hK K
  refine one_ (i := 95) (N := some 110) (bl 115 0xffffffffffffffffffffffff) rfl rfl (one_of HT_.out (by as_aux_lemma => kernel_rfl)) (by decide) (fun K hK => ?_)
  rw [if_pos (by as_aux_lemma => kernel_rfl)]
  go_simp
  (go_at_call 32; (with_reducible refine (at_w HR5 _).mono ?_); rintro e1 v23 ⟨rfl, hb⟩; have Y23 := Aside0.mk (Y22.out.next hb); have P5b := Aside0.mk (blk_below P5.out hb); have Q5b := Aside0.mk (blk_below Q5.out hb); clear hb)
  refine hK.out _ _ (ops_s Y23.out) (fun hHeld => ?_)
  clear hK K
  refine pu2 96 111 (bl 115 0x1ffffffffffffffffffffffff) HT_ ?_
  refine pu2 97 112 (bl 115 0x3ffffffffffffffffffffffff) HT_ ?_
  refine one_ (i := 98) (N := some 113) (bl 115 0x7ffffffffffffffffffffffff) rfl rfl (one_of HT_.out (by as_aux_lemma => kernel_rfl)) (by decide) (fun K hK => ?_)
  rw [if_pos (by as_aux_lemma => kernel_rfl)]
  go_simp
  (go_at_call 49; (with_reducible refine (one1_yes gp5 gq5 M5 E5 c5 _ P5b.out Q5b.out).mono ?_); rintro e1 v24 ⟨rfl, hb⟩; have Y24 := Aside0.mk (Y23.out.next hb); clear hb P5 Q5 P5b Q5b)
  refine hK.out _ _ (ops_s Y24.out) (fun hHeld => ?_)
  clear hK K
  refine pu2 99 114 (bl 115 0xfffffffffffffffffffffffff) HT_ ?_
  refine pu2 100 115 (bl 115 0x1fffffffffffffffffffffffff) HT_ ?_
  refine pu2 101 116 (bl 115 0x3fffffffffffffffffffffffff) HT_ ?_
  refine ta2 102 117 (bl 115 0x7fffffffffffffffffffffffff) HT_ HW_ hHeld ?_
  refine pu2 107 122 (bl 115 0x87fffffffffffffffffffffffff) HT_ ?_
  refine ta2 108 123 (bl 115 0x187fffffffffffffffffffffffff) HT_ HW_ hHeld ?_
  refine one_ (i := 103) (N := some 118) (bl 115 0x18ffffffffffffffffffffffffff) rfl rfl (one_of HT_.out (by as_aux_lemma => kernel_rfl)) (by decide) (fun K hK => ?_)
  rw [if_pos (by as_aux_lemma => kernel_rfl)]
  go_simp
  (go_at_call 33; (with_reducible refine (at_w HP6 _).mono ?_); rintro e1 v25 ⟨rfl, hb⟩; have Y25 := Aside0.mk (Y24.out.next hb); clear hb)
  refine hK.out _ _ (ops_s Y25.out) (fun hHeld => ?_)
  clear hK K
  refine pu2 104 119 (bl 115 0x19ffffffffffffffffffffffffff) HT_ ?_
  refine pu2 105 120 (bl 115 0x1bffffffffffffffffffffffffff) HT_ ?_
  refine one_ (i := 106) (N := some 121) (bl 115 0x1fffffffffffffffffffffffffff) rfl rfl (one_of HT_.out (by as_aux_lemma => kernel_rfl)) (by decide) (fun K hK => ?_)
  rw [if_pos (by as_aux_lemma => kernel_rfl)]
  go_simp
  (go_at_call 16; (with_reducible refine (one_calls M6 E6 c6 _).mono ?_); rintro e1 v26 ⟨gp6, gq6, rfl, hp, hq, hb⟩; have P6 := Aside0.mk hp; have Q6 := Aside0.mk hq; have Y26 := Aside0.mk (Y25.out.next hb); clear hb hp hq)
  refine hK.out _ _ (ops_s Y26.out) (fun hHeld => ?_)
  clear hK K
  refine one_ (i := 109) (N := some 124) (bl 115 0x3fffffffffffffffffffffffffff) rfl rfl (one_of HT_.out (by as_aux_lemma => kernel_rfl)) (by decide) (fun K hK => ?_)
  rw [if_pos (by as_aux_lemma => kernel_rfl)]
  go_simp
  (go_at_call 34; (with_reducible refine (at_w HR6 _).mono ?_); rintro e1 v27 ⟨rfl, hb⟩; have Y27 := Aside0.mk (Y26.out.next hb); have P6b := Aside0.mk (blk_below P6.out hb); have Q6b := Aside0.mk (blk_below Q6.out hb); clear hb)
  refine hK.out _ _ (ops_s Y27.out) (fun hHeld => ?_)
  clear hK K
  refine pu2 110 125 (bl 115 0x7fffffffffffffffffffffffffff) HT_ ?_
  refine pu2 111 126 (bl 115 0xffffffffffffffffffffffffffff) HT_ ?_
  refine one_ (i := 112) (N := some 127) (bl 115 0x1ffffffffffffffffffffffffffff) rfl rfl (one_of HT_.out (by as_aux_lemma => kernel_rfl)) (by decide) (fun K hK => ?_)
  rw [if_pos (by as_aux_lemma => kernel_rfl)]
  go_simp
  (go_at_call 49; (with_reducible refine (one1_yes gp6 gq6 M6 E6 c6 _ P6b.out Q6b.out).mono ?_); rintro e1 v28 ⟨rfl, hb⟩; have Y28 := Aside0.mk (Y27.out.next hb); clear hb P6 Q6 P6b Q6b)
  refine hK.out _ _ (ops_s Y28.out) (fun hHeld => ?_)
  clear hK K
  refine pu2 113 128 (bl 115 0x3ffffffffffffffffffffffffffff) HT_ ?_
  refine pu2 114 6 (bl 115 0x7ffffffffffffffffffffffffffff) HT_ ?_
  refine done_ (done_of HT_.out (by kernel_rfl)) ?_
  go_wp2
  go_ret
  exact ⟨rfl, Y28.out.b⟩
end Go.Proofs.Ytamkjpjibkabaaa.PR
