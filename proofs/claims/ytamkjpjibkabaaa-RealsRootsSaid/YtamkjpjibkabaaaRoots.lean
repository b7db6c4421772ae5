import Derived.Test.YtamkjpjibkabaaaPrets
namespace Go.Proofs.Ytamkjpjibkabaaa.PR
open Go.RowKit Go.Proofs.YtamkjpjibkabaaaW.PrintWords Go.Proofs.YtamkjpjibkabaaaW.PrintLast Go.Proofs.YtamkjpjibkabaaaW.PrintMore
set_option linter.unusedVariables false
set_option linter.unusedSimpArgs false
/-! the law RealsRoots, walked over what its callees return -/
theorem roots_s {w w' : World} {g k : Nat} {A B Y F : Int} {l : List (Nat × Array Value × TypeId)} (h : Bxs w w' ((g, #[.int .i64 Y, .int .i64 F], 29) :: (k, #[.int .i64 A, .int .i64 B], 29) :: l)) : (w'.cell? ⟨k, 0, none⟩ = some (.int .i64 A) ∧ w'.cell? ⟨k, 1, none⟩ = some (.int .i64 B) ∧ w'.cell? ⟨g, 0, none⟩ = some (.int .i64 Y) ∧ w'.cell? ⟨g, 1, none⟩ = some (.int .i64 F)) ∧ Aside0 (Bxs w w' ((g, #[.int .i64 Y, .int .i64 F], 29) :: (k, #[.int .i64 A, .int .i64 B], 29) :: l)) := by
  obtain ⟨a, b⟩ := c2 h.get; obtain ⟨c, d⟩ := c2 h.tail.get
  exact ⟨⟨c, d, a, b⟩, ⟨h⟩⟩
set_option maxHeartbeats 8000000 in
set_option maxRecDepth 100000 in
theorem roots_walk (s m e D F c1 Q G c A B c3 A2 B2 c4 Y F2 : Int) (w : World) (h11 : Ret 11 #[] (.bool true)) (h29 : Ret 29 #[.int .i64 s, .int .i64 2, .agg #[.int .i64 m, .int .i64 e]] (.tuple #[.agg #[.int .i64 D, .int .i64 F], .int .i64 c1]))
    (hq : c1 = 0 → Ret 25 #[.int .i64 s, .int .i64 2, .agg #[.int .i64 D, .int .i64 F], .agg #[.int .i64 D, .int .i64 F]] (.tuple #[.agg #[.int .i64 Q, .int .i64 G], .int .i64 0]) ∧ Ret 35 #[.agg #[.int .i64 Q, .int .i64 G], .agg #[.int .i64 m, .int .i64 e]] (.int .i64 c) ∧ c ≤ 0)
    (h25 : Ret 25 #[.int .i64 s, .int .i64 2, .agg #[.int .i64 m, .int .i64 e], .agg #[.int .i64 m, .int .i64 e]] (.tuple #[.agg #[.int .i64 A, .int .i64 B], .int .i64 c3])) (h25b : Ret 25 #[.int .i64 s, .int .i64 1, .agg #[.int .i64 m, .int .i64 e], .agg #[.int .i64 m, .int .i64 e]] (.tuple #[.agg #[.int .i64 A2, .int .i64 B2], .int .i64 c4]))
    (hl : c3 = 0 → c4 = 0 → A = A2 → B = B2 → Ret 33 #[.int .i64 s, .agg #[.int .i64 m, .int .i64 e]] (.tuple #[.agg #[.int .i64 Y, .int .i64 F2], .int .i64 0]) ∧ Ret 29 #[.int .i64 s, .int .i64 0, .agg #[.int .i64 A, .int .i64 B]] (.tuple #[.agg #[.int .i64 Y, .int .i64 F2], .int .i64 0])) :
    Calls Try.prog 9 #[.int .i64 s, .agg #[.int .i64 m, .int .i64 e]] w fun e w' => e = .returned (.bool true) ∧ Below w.heap.size w w' := by
  have hu := Try.underlying29
  have H11 := Aside0.mk h11; have H29 := Aside0.mk h29; have HQ := Aside0.mk hq; have H25 := Aside0.mk h25; have H25B := Aside0.mk h25b; have HL := Aside0.mk hl
  clear h11 h29 hq h25 h25b hl
  have HX := Aside0.mk ((bxs_nil w).push #[.int .i64 m, .int .i64 e] 29)
  go_enter Try.func9, Try.ntmps9
  go_wp2_with fail
  refine (at_w H11 _).mono ?_
  rintro e1 w1 ⟨rfl, hb⟩
  have HX1 := Aside0.mk (HX.out.next hb); clear hb HX
  obtain ⟨x0, x1⟩ := c2 HX1.out.get
  go_wp2_with fail
  refine (at_w H29 _).mono ?_
  rintro e1 w2 ⟨rfl, hb⟩
  have HX2 := Aside0.mk (HX1.out.next hb); clear hb HX1 x0 x1
  go_upto_if 23 with fail
  go_cut [] (fun wx => Aside0 (Bxs w wx [(w.heap.size, #[.int .i64 m, .int .i64 e], 29)]))
  case first =>
    by_cases hc : c1 = 0
    · obtain ⟨hm, hcp, hcl⟩ := HQ.out hc
      subst hc
      have HM := Aside0.mk hm; have HCP := Aside0.mk hcp
      have hc' : decide (0 < c) = false := decide_eq_false (by omega)
      clear hm hcp
      have HX3 := Aside0.mk (HX2.out.push #[.int .i64 D, .int .i64 F] 29); clear HX2
      go_wp2_with fail
      refine (at_w HM _).mono ?_
      rintro e1 w3 ⟨rfl, hb⟩
      have HX4 := Aside0.mk ((HX3.out.tail.next hb).push #[.int .i64 Q, .int .i64 G] 29)
      obtain ⟨x0, x1⟩ := c2 (HX3.out.tail.next hb).get
      have hxl := blk_lt (HX3.out.tail.next hb).get
      clear hb HX3
      go_wp2_with fail
      refine (at_w HCP _).mono ?_
      rintro e1 w4 ⟨rfl, hb⟩
      have HX5 := Aside0.mk (HX4.out.tail.next hb)
      clear hb HX4 x0 x1
      go_wp2_with fail
      go_meet
      exact HX5
    · have hc1 : (c1 == 0) = false := by rw [beq_eq_false_iff_ne]; exact hc
      have HX3 := Aside0.mk (HX2.out.alloc (.cells #[.int .i64 D, .int .i64 F] 29)); clear HX2
      go_wp2_with fail
      go_meet
      exact HX3
  case rest =>
    have HX := hcut
    obtain ⟨x0, x1⟩ := c2 HX.out.get
    clear hcut HX2 HQ
    go_wp2_with fail
    refine (at_w H25 _).mono ?_
    rintro e1 w3 ⟨rfl, hb⟩
    have HX3 := Aside0.mk ((HX.out.next hb).push #[.int .i64 A, .int .i64 B] 29)
    clear x0 x1
    obtain ⟨x0, x1⟩ := c2 (HX.out.next hb).get
    have hxl := blk_lt (HX.out.next hb).get
    clear hb HX
    go_wp2_with fail
    refine (at_w H25B _).mono ?_
    rintro e1 w4 ⟨rfl, hb⟩
    have HX4 := Aside0.mk ((HX3.out.next hb).push #[.int .i64 A2, .int .i64 B2] 29)
    clear x0 x1
    obtain ⟨x0, x1⟩ := c2 (HX3.out.next hb).tail.get
    obtain ⟨a0, a1⟩ := c2 (HX3.out.next hb).get
    have hal := blk_lt (HX3.out.next hb).get
    have hxl2 := blk_lt (HX3.out.next hb).tail.get
    clear hb HX3
    by_cases k3 : c3 = 0
    · by_cases k4 : c4 = 0
      · by_cases kA : A = A2 ∧ B = B2
        · obtain ⟨hab, hsq⟩ := HL.out k3 k4 kA.1 kA.2
          obtain ⟨rfl, rfl⟩ := kA
          subst k3; subst k4
          have HAB := Aside0.mk hab; have HSQ := Aside0.mk hsq
          clear hab hsq
          go_wp2_with fail
          refine (at_w HAB _).mono ?_
          rintro e1 w5 ⟨rfl, hb⟩
          have HX5 := Aside0.mk ((HX4.out.tail.next hb).push #[.int .i64 Y, .int .i64 F2] 29)
          clear hb HX4 x0 x1 a0 a1
          go_upto_region 13 with fail
          go_region_held3 (fun w' => (w'.cell? ⟨w3.heap.size, 0, none⟩ = some (.int .i64 A) ∧ w'.cell? ⟨w3.heap.size, 1, none⟩ = some (.int .i64 B) ∧ w'.cell? ⟨w5.heap.size, 0, none⟩ = some (.int .i64 Y) ∧ w'.cell? ⟨w5.heap.size, 1, none⟩ = some (.int .i64 F2)) ∧ Aside0 (Bxs w w' ((w5.heap.size, #[.int .i64 Y, .int .i64 F2], 29) :: (w3.heap.size, #[.int .i64 A, .int .i64 B], 29) :: [(w.heap.size, #[.int .i64 m, .int .i64 e], 29)]))) (((try go_split_ands); (refine roots_s ?_); (first | exact HX8.out | exact HX7.out | exact HX6.out | exact HX5.out.drew))) (first | (go_at_call 29; (with_reducible refine (at_w HSQ _).mono ?_); rintro e1 w6 ⟨rfl, hb⟩; have HX6 := Aside0.mk (HX5.out.drew.next hb); clear hb) | (go_at_call 16; (with_reducible refine (one_calls Y F2 0 _).mono ?_); rintro e1 w7 ⟨gp, gq, rfl, hp, hq, hb⟩; have HP := Aside0.mk hp; have HG := Aside0.mk hq; have HX7 := Aside0.mk (HX6.out.next hb); clear hb hp hq) | (go_at_call 49; (with_reducible refine (one1_yes gp gq Y F2 0 _ HP.out HG.out).mono ?_); rintro e1 w8 ⟨rfl, hb⟩; have HX8 := Aside0.mk (HX7.out.next hb); clear hb))
          all_goals go_wp2
          all_goals go_ret
          all_goals exact ⟨rfl, HX8.out.b⟩
        · subst k3; subst k4
          by_cases h : A = A2
          · subst h
            have hab : (B == B2) = false := by rw [beq_eq_false_iff_ne]; exact fun h2 => kA ⟨rfl, h2⟩
            have hab2 : ¬ B = B2 := fun h2 => kA ⟨rfl, h2⟩
            clear kA
            go_wp2
            go_ret
            exact ⟨rfl, HX4.out.b⟩
          · have hab : (A == A2) = false := by rw [beq_eq_false_iff_ne]; exact h
            clear kA
            go_wp2
            go_ret
            exact ⟨rfl, HX4.out.b⟩
      · have hk : (c4 == 0) = false := by rw [beq_eq_false_iff_ne]; exact k4
        have hk2 : (c4 != 0) = true := by rw [bne_iff_ne]; exact k4
        subst k3
        clear k4
        go_wp2
        go_ret
        exact ⟨rfl, HX4.out.b⟩
    · have hk : (c3 == 0) = false := by rw [beq_eq_false_iff_ne]; exact k3
      have hk2 : (c3 != 0) = true := by rw [bne_iff_ne]; exact k3
      clear k3
      go_wp2
      go_ret
      exact ⟨rfl, HX4.out.b⟩
/-! the law RealsRoots -/
theorem sqrtS_I64 {s how m e D F : Int} (h : sqrtS s how m e = (D, F, 0)) : I64 D ∧ I64 F := by
  unfold sqrtS at h
  by_cases hm : m < 0
  · rw [if_pos hm] at h; have := (opS_ok h).2.2.2.2; simp at this
  · rw [if_neg hm] at h; exact opS_I64 h
theorem realsRoots_walk (s m e : Int) (w : World) (_w0 : (Lit.int .i64 s).wf = true) (w1 : (Lit.int .i64 m).wf = true) (w2 : (Lit.int .i64 e).wf = true) :
    Calls Try.prog 9 #[.int .i64 s, .agg #[.int .i64 m, .int .i64 e]] w fun e w' => e = .returned (.bool true) ∧ Below w.heap.size w w' := by
  have hm := wf64 w1; have he := wf64 w2
  rcases hS : sqrtS s 2 m e with ⟨D, F, c1⟩
  rcases hA : mulS s 2 m e m e with ⟨A, B, c3⟩
  rcases hB : mulS s 1 m e m e with ⟨A2, B2, c4⟩
  obtain ⟨Q, G, hQ⟩ : ∃ Q G, c1 = 0 → mulS s 2 D F D F = (Q, G, 0) ∧ cmpS Q G m e ≤ 0 := by
    by_cases h : c1 = 0
    · subst h; obtain ⟨Q, G, h1, h2⟩ := root_down hS; exact ⟨Q, G, fun _ => ⟨h1, h2⟩⟩
    · exact ⟨0, 0, fun h' => absurd h' h⟩
  refine roots_walk s m e D F c1 Q G (cmpS Q G m e) A B c3 A2 B2 c4 m.natAbs e w awake_ret (sqrt_ret hm hS) (fun h => ?_) (mul_ret hm hm hA) (mul_ret hm hm hB) (fun h3 h4 hab hbb => ?_)
  · obtain ⟨h1, h2⟩ := hQ h
    subst h
    have hD := sqrtS_I64 hS
    have hQ2 := opS_I64 (by unfold mulS at h1; exact h1)
    exact ⟨mul_ret hD.1 hD.1 h1, compare_ret Q G m e hQ2.1 hm hQ2.2 he, h2⟩
  · subst h3; subst h4; subst hab; subst hbb
    obtain ⟨h1, h2⟩ := root_exact hA hB
    have hA2 := opS_I64 (by unfold mulS at hA; exact hA)
    exact ⟨abs_ret hm h1, sqrt_ret hA2.1 h2⟩
end Go.Proofs.Ytamkjpjibkabaaa.PR
