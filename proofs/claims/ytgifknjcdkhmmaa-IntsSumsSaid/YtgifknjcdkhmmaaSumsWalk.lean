import Derived.Test.YtgifknjcdkhmmaaPIntsSumsx2
namespace Go.Proofs.Ytgifknjcdkhmmaa.SumsWalk
open Go.RowKit Go.Proofs.Ytgifknjcdkhmmaa.PIntsSums Go.Proofs.YtgifknjcdkhmmaaW.PrintWords Go.Proofs.YtgifknjcdkhmmaaW.PrintLast Go.Proofs.YtgifknjcdkhmmaaW.PrintMore
/-- the call of function f with these values returns v, and nothing that was there has changed -/
def Ret (f : Nat) (args : Array Value) (v : Value) : Prop := ∀ w, Calls Try.prog f args w fun e w' => e = .returned v ∧ Below w.heap.size w w'
theorem ret_b {f : Nat} {args : Array Value} {v : Value} (h : ∀ w, Calls Try.prog f args w fun e w' => e = .returned v ∧ Below w.heap.size w w') : Ret f args v := h
theorem ret_d {f : Nat} {args : Array Value} {v : Value} (h : ∀ w, Calls Try.prog f args w fun e w' => e = .returned v ∧ Drawn0 w w') : Ret f args v := fun w => (h w).mono fun _ _ ⟨he, hd⟩ => ⟨he, hd.below⟩
theorem ret_s {f : Nat} {args : Array Value} {v : Value} (h : ∀ w, Calls Try.prog f args w fun e w' => e = .returned v ∧ w = w') : Ret f args v := fun w => (h w).mono fun _ _ ⟨he, hd⟩ => ⟨he, hd ▸ Below.refl _ _⟩

def OneP (a e : Int) (w : World) (en : Ending) (w' : World) : Prop := ∃ p q : Addr, en = .returned (.func (Fn.func 63) #[] #[.pointer (some p), .pointer (some q)]) ∧ w'.cell? p = some (.int .i64 a) ∧ w'.cell? q = some (.int .i64 e) ∧ p.block < w'.heap.size ∧ q.block < w'.heap.size ∧ Below w.heap.size w w'
theorem one_calls (a e : Int) (w : World) : Calls Try.prog 13 #[.int .i64 a, .int .i64 e] w (OneP a e w) := by
  go_enter Try.func13, Try.ntmps13
  go_wp2
  go_ret
  refine ⟨⟨w.heap.size, 0, none⟩, ⟨w.heap.size + 1, 0, none⟩, rfl, ?_, ?_, ?_, ?_, ((Below.refl _ _).alloc (Nat.le_refl _) _).alloc (by simp) _⟩
  · go_simp
  · go_simp
  · go_simp
  · go_simp
theorem one1_yes (p q : Addr) (a e : Int) (w : World) (hp : w.cell? p = some (.int .i64 a)) (hq : w.cell? q = some (.int .i64 e)) : Calls Try.prog 63 #[.int .i64 a, .int .i64 e, .pointer (some p), .pointer (some q)] w fun en w' => en = .returned (.bool true) ∧ w = w' := by
  go_enter Try.func63, Try.ntmps63
  go_wp2
  go_ret
  exact ⟨rfl, rfl⟩

set_option maxHeartbeats 4000000 in
set_option maxRecDepth 100000 in
theorem sums_yes_low (s a b x1 e1 x2 e2 : Int) (w : World) (h9 : Ret 9 #[] (.bool true))
    (hA : Ret 14 #[.int .i64 s, .int .i64 a, .int .i64 b] (.tuple #[.int .i64 x1, .int .i64 e1]))
    (hA2 : Ret 14 #[.int .i64 s, .int .i64 b, .int .i64 a] (.tuple #[.int .i64 x1, .int .i64 e1]))
    (hM : Ret 18 #[.int .i64 s, .int .i64 a, .int .i64 b] (.tuple #[.int .i64 x2, .int .i64 e2]))
    (hM2 : Ret 18 #[.int .i64 s, .int .i64 b, .int .i64 a] (.tuple #[.int .i64 x2, .int .i64 e2]))
    (g1 : (e1 == 0) = true)
    (hS : Ret 16 #[.int .i64 s, .int .i64 x1, .int .i64 b] (.tuple #[.int .i64 a, .int .i64 0]))
    (g2 : b < 0)
    : Calls Try.prog 5 #[.int .i64 s, .int .i64 a, .int .i64 b] w fun e w' => e = .returned (.bool true) ∧ Below w.heap.size w w' := by
  have HB := Aside0.mk (Below.refl w.heap.size w)
  go_enter Try.func5, Try.ntmps5
  go_wp2_with fail
  refine (h9 _).mono ?_
  rintro e w2 ⟨rfl, hb⟩; have HB' := Aside0.mk (below_step HB.out hb); clear HB; have HB := HB'; clear HB' hb
  go_wp2_with fail
  refine (hA _).mono ?_
  rintro e w2 ⟨rfl, hb⟩; have HB' := Aside0.mk (below_step HB.out hb); clear HB; have HB := HB'; clear HB' hb
  go_wp2_with fail
  refine (one_calls _ _ _).mono ?_
  rintro e w3 ⟨pp, qq, rfl, hp, hq, hpb, hqb, hb⟩; have HB' := Aside0.mk (below_step HB.out hb); clear HB; have HB := HB'; clear HB' hb
  go_wp2_with fail
  refine (hA2 _).mono ?_
  rintro e w4 ⟨rfl, hb⟩
  have hp' := (hb.cell hpb).trans hp
  have hq' := (hb.cell hqb).trans hq
  have hpb' := Nat.lt_of_lt_of_le hpb hb.size
  have hqb' := Nat.lt_of_lt_of_le hqb hb.size
  clear hp hq hpb hqb
  have hp := hp'; have hq := hq'; have hpb := hpb'; have hqb := hqb'
  clear hp' hq' hpb' hqb'
  have HB' := Aside0.mk (below_step HB.out hb); clear HB; have HB := HB'; clear HB' hb
  go_wp2_with fail
  refine (one1_yes pp qq _ _ _ hp hq).mono ?_
  rintro e w5 ⟨rfl, rfl⟩
  clear hp hq hpb hqb
  go_wp2_with fail
  refine (hM _).mono ?_
  rintro e w2 ⟨rfl, hb⟩; have HB' := Aside0.mk (below_step HB.out hb); clear HB; have HB := HB'; clear HB' hb
  go_wp2_with fail
  refine (one_calls _ _ _).mono ?_
  rintro e w3 ⟨pp, qq, rfl, hp, hq, hpb, hqb, hb⟩; have HB' := Aside0.mk (below_step HB.out hb); clear HB; have HB := HB'; clear HB' hb
  go_wp2_with fail
  refine (hM2 _).mono ?_
  rintro e w4 ⟨rfl, hb⟩
  have hp' := (hb.cell hpb).trans hp
  have hq' := (hb.cell hqb).trans hq
  have hpb' := Nat.lt_of_lt_of_le hpb hb.size
  have hqb' := Nat.lt_of_lt_of_le hqb hb.size
  clear hp hq hpb hqb
  have hp := hp'; have hq := hq'; have hpb := hpb'; have hqb := hqb'
  clear hp' hq' hpb' hqb'
  have HB' := Aside0.mk (below_step HB.out hb); clear HB; have HB := HB'; clear HB' hb
  go_wp2_with fail
  refine (one1_yes pp qq _ _ _ hp hq).mono ?_
  rintro e w5 ⟨rfl, rfl⟩
  clear hp hq hpb hqb
  go_wp2_with fail
  refine (hA _).mono ?_
  rintro e w2 ⟨rfl, hb⟩; have HB' := Aside0.mk (below_step HB.out hb); clear HB; have HB := HB'; clear HB' hb
  go_wp2_with fail
  refine (hS _).mono ?_
  rintro e w2 ⟨rfl, hb⟩; have HB' := Aside0.mk (below_step HB.out hb); clear HB; have HB := HB'; clear HB' hb
  go_wp2_with fail
  refine (one_calls _ _ _).mono ?_
  rintro e w3 ⟨pp, qq, rfl, hp, hq, hpb, hqb, hb⟩; have HB' := Aside0.mk (below_step HB.out hb); clear HB; have HB := HB'; clear HB' hb
  go_wp2_with fail
  refine (one1_yes _ _ _ _ _ hp hq).mono ?_
  rintro e w5 ⟨rfl, rfl⟩
  clear hp hq hpb hqb
  go_wp2_with fail
  go_ret
  exact ⟨rfl, HB.out⟩
set_option maxHeartbeats 4000000 in
set_option maxRecDepth 100000 in
theorem sums_yes_high (s a b x1 e1 x2 e2 : Int) (w : World) (h9 : Ret 9 #[] (.bool true))
    (hA : Ret 14 #[.int .i64 s, .int .i64 a, .int .i64 b] (.tuple #[.int .i64 x1, .int .i64 e1]))
    (hA2 : Ret 14 #[.int .i64 s, .int .i64 b, .int .i64 a] (.tuple #[.int .i64 x1, .int .i64 e1]))
    (hM : Ret 18 #[.int .i64 s, .int .i64 a, .int .i64 b] (.tuple #[.int .i64 x2, .int .i64 e2]))
    (hM2 : Ret 18 #[.int .i64 s, .int .i64 b, .int .i64 a] (.tuple #[.int .i64 x2, .int .i64 e2]))
    (g1 : (e1 == 0) = true)
    (hS : Ret 16 #[.int .i64 s, .int .i64 x1, .int .i64 b] (.tuple #[.int .i64 a, .int .i64 0]))
    (g2 : 0 ≤ b) (g3 : 70 < b)
    : Calls Try.prog 5 #[.int .i64 s, .int .i64 a, .int .i64 b] w fun e w' => e = .returned (.bool true) ∧ Below w.heap.size w w' := by
  have HB := Aside0.mk (Below.refl w.heap.size w)
  go_enter Try.func5, Try.ntmps5
  go_wp2_with fail
  refine (h9 _).mono ?_
  rintro e w2 ⟨rfl, hb⟩; have HB' := Aside0.mk (below_step HB.out hb); clear HB; have HB := HB'; clear HB' hb
  go_wp2_with fail
  refine (hA _).mono ?_
  rintro e w2 ⟨rfl, hb⟩; have HB' := Aside0.mk (below_step HB.out hb); clear HB; have HB := HB'; clear HB' hb
  go_wp2_with fail
  refine (one_calls _ _ _).mono ?_
  rintro e w3 ⟨pp, qq, rfl, hp, hq, hpb, hqb, hb⟩; have HB' := Aside0.mk (below_step HB.out hb); clear HB; have HB := HB'; clear HB' hb
  go_wp2_with fail
  refine (hA2 _).mono ?_
  rintro e w4 ⟨rfl, hb⟩
  have hp' := (hb.cell hpb).trans hp
  have hq' := (hb.cell hqb).trans hq
  have hpb' := Nat.lt_of_lt_of_le hpb hb.size
  have hqb' := Nat.lt_of_lt_of_le hqb hb.size
  clear hp hq hpb hqb
  have hp := hp'; have hq := hq'; have hpb := hpb'; have hqb := hqb'
  clear hp' hq' hpb' hqb'
  have HB' := Aside0.mk (below_step HB.out hb); clear HB; have HB := HB'; clear HB' hb
  go_wp2_with fail
  refine (one1_yes pp qq _ _ _ hp hq).mono ?_
  rintro e w5 ⟨rfl, rfl⟩
  clear hp hq hpb hqb
  go_wp2_with fail
  refine (hM _).mono ?_
  rintro e w2 ⟨rfl, hb⟩; have HB' := Aside0.mk (below_step HB.out hb); clear HB; have HB := HB'; clear HB' hb
  go_wp2_with fail
  refine (one_calls _ _ _).mono ?_
  rintro e w3 ⟨pp, qq, rfl, hp, hq, hpb, hqb, hb⟩; have HB' := Aside0.mk (below_step HB.out hb); clear HB; have HB := HB'; clear HB' hb
  go_wp2_with fail
  refine (hM2 _).mono ?_
  rintro e w4 ⟨rfl, hb⟩
  have hp' := (hb.cell hpb).trans hp
  have hq' := (hb.cell hqb).trans hq
  have hpb' := Nat.lt_of_lt_of_le hpb hb.size
  have hqb' := Nat.lt_of_lt_of_le hqb hb.size
  clear hp hq hpb hqb
  have hp := hp'; have hq := hq'; have hpb := hpb'; have hqb := hqb'
  clear hp' hq' hpb' hqb'
  have HB' := Aside0.mk (below_step HB.out hb); clear HB; have HB := HB'; clear HB' hb
  go_wp2_with fail
  refine (one1_yes pp qq _ _ _ hp hq).mono ?_
  rintro e w5 ⟨rfl, rfl⟩
  clear hp hq hpb hqb
  go_wp2_with fail
  refine (hA _).mono ?_
  rintro e w2 ⟨rfl, hb⟩; have HB' := Aside0.mk (below_step HB.out hb); clear HB; have HB := HB'; clear HB' hb
  go_wp2_with fail
  refine (hS _).mono ?_
  rintro e w2 ⟨rfl, hb⟩; have HB' := Aside0.mk (below_step HB.out hb); clear HB; have HB := HB'; clear HB' hb
  go_wp2_with fail
  refine (one_calls _ _ _).mono ?_
  rintro e w3 ⟨pp, qq, rfl, hp, hq, hpb, hqb, hb⟩; have HB' := Aside0.mk (below_step HB.out hb); clear HB; have HB := HB'; clear HB' hb
  go_wp2_with fail
  refine (one1_yes _ _ _ _ _ hp hq).mono ?_
  rintro e w5 ⟨rfl, rfl⟩
  clear hp hq hpb hqb
  go_wp2_with fail
  go_ret
  exact ⟨rfl, HB.out⟩
set_option maxHeartbeats 4000000 in
set_option maxRecDepth 100000 in
theorem sums_yes_perr (s a b x1 e1 x2 e2 p e3 : Int) (w : World) (h9 : Ret 9 #[] (.bool true))
    (hA : Ret 14 #[.int .i64 s, .int .i64 a, .int .i64 b] (.tuple #[.int .i64 x1, .int .i64 e1]))
    (hA2 : Ret 14 #[.int .i64 s, .int .i64 b, .int .i64 a] (.tuple #[.int .i64 x1, .int .i64 e1]))
    (hM : Ret 18 #[.int .i64 s, .int .i64 a, .int .i64 b] (.tuple #[.int .i64 x2, .int .i64 e2]))
    (hM2 : Ret 18 #[.int .i64 s, .int .i64 b, .int .i64 a] (.tuple #[.int .i64 x2, .int .i64 e2]))
    (g1 : (e1 == 0) = true)
    (hS : Ret 16 #[.int .i64 s, .int .i64 x1, .int .i64 b] (.tuple #[.int .i64 a, .int .i64 0]))
    (g2 : 0 ≤ b) (g3 : b ≤ 70)
    (hP : Ret 22 #[.int .i64 s, .int .i64 a, .int .i64 b] (.tuple #[.int .i64 p, .int .i64 e3]))
    (g4 : (e3 != 0) = true)
    : Calls Try.prog 5 #[.int .i64 s, .int .i64 a, .int .i64 b] w fun e w' => e = .returned (.bool true) ∧ Below w.heap.size w w' := by
  have HB := Aside0.mk (Below.refl w.heap.size w)
  go_enter Try.func5, Try.ntmps5
  go_wp2_with fail
  refine (h9 _).mono ?_
  rintro e w2 ⟨rfl, hb⟩; have HB' := Aside0.mk (below_step HB.out hb); clear HB; have HB := HB'; clear HB' hb
  go_wp2_with fail
  refine (hA _).mono ?_
  rintro e w2 ⟨rfl, hb⟩; have HB' := Aside0.mk (below_step HB.out hb); clear HB; have HB := HB'; clear HB' hb
  go_wp2_with fail
  refine (one_calls _ _ _).mono ?_
  rintro e w3 ⟨pp, qq, rfl, hp, hq, hpb, hqb, hb⟩; have HB' := Aside0.mk (below_step HB.out hb); clear HB; have HB := HB'; clear HB' hb
  go_wp2_with fail
  refine (hA2 _).mono ?_
  rintro e w4 ⟨rfl, hb⟩
  have hp' := (hb.cell hpb).trans hp
  have hq' := (hb.cell hqb).trans hq
  have hpb' := Nat.lt_of_lt_of_le hpb hb.size
  have hqb' := Nat.lt_of_lt_of_le hqb hb.size
  clear hp hq hpb hqb
  have hp := hp'; have hq := hq'; have hpb := hpb'; have hqb := hqb'
  clear hp' hq' hpb' hqb'
  have HB' := Aside0.mk (below_step HB.out hb); clear HB; have HB := HB'; clear HB' hb
  go_wp2_with fail
  refine (one1_yes pp qq _ _ _ hp hq).mono ?_
  rintro e w5 ⟨rfl, rfl⟩
  clear hp hq hpb hqb
  go_wp2_with fail
  refine (hM _).mono ?_
  rintro e w2 ⟨rfl, hb⟩; have HB' := Aside0.mk (below_step HB.out hb); clear HB; have HB := HB'; clear HB' hb
  go_wp2_with fail
  refine (one_calls _ _ _).mono ?_
  rintro e w3 ⟨pp, qq, rfl, hp, hq, hpb, hqb, hb⟩; have HB' := Aside0.mk (below_step HB.out hb); clear HB; have HB := HB'; clear HB' hb
  go_wp2_with fail
  refine (hM2 _).mono ?_
  rintro e w4 ⟨rfl, hb⟩
  have hp' := (hb.cell hpb).trans hp
  have hq' := (hb.cell hqb).trans hq
  have hpb' := Nat.lt_of_lt_of_le hpb hb.size
  have hqb' := Nat.lt_of_lt_of_le hqb hb.size
  clear hp hq hpb hqb
  have hp := hp'; have hq := hq'; have hpb := hpb'; have hqb := hqb'
  clear hp' hq' hpb' hqb'
  have HB' := Aside0.mk (below_step HB.out hb); clear HB; have HB := HB'; clear HB' hb
  go_wp2_with fail
  refine (one1_yes pp qq _ _ _ hp hq).mono ?_
  rintro e w5 ⟨rfl, rfl⟩
  clear hp hq hpb hqb
  go_wp2_with fail
  refine (hA _).mono ?_
  rintro e w2 ⟨rfl, hb⟩; have HB' := Aside0.mk (below_step HB.out hb); clear HB; have HB := HB'; clear HB' hb
  go_wp2_with fail
  refine (hS _).mono ?_
  rintro e w2 ⟨rfl, hb⟩; have HB' := Aside0.mk (below_step HB.out hb); clear HB; have HB := HB'; clear HB' hb
  go_wp2_with fail
  refine (one_calls _ _ _).mono ?_
  rintro e w3 ⟨pp, qq, rfl, hp, hq, hpb, hqb, hb⟩; have HB' := Aside0.mk (below_step HB.out hb); clear HB; have HB := HB'; clear HB' hb
  go_wp2_with fail
  refine (one1_yes _ _ _ _ _ hp hq).mono ?_
  rintro e w5 ⟨rfl, rfl⟩
  clear hp hq hpb hqb
  go_wp2_with fail
  refine (hP _).mono ?_
  rintro e w2 ⟨rfl, hb⟩; have HB' := Aside0.mk (below_step HB.out hb); clear HB; have HB := HB'; clear HB' hb
  go_wp2_with fail
  go_ret
  exact ⟨rfl, HB.out⟩
set_option maxHeartbeats 4000000 in
set_option maxRecDepth 100000 in
theorem sums_yes_pok (s a b x1 e1 x2 e2 p e3 x y : Int) (w : World) (h9 : Ret 9 #[] (.bool true))
    (hA : Ret 14 #[.int .i64 s, .int .i64 a, .int .i64 b] (.tuple #[.int .i64 x1, .int .i64 e1]))
    (hA2 : Ret 14 #[.int .i64 s, .int .i64 b, .int .i64 a] (.tuple #[.int .i64 x1, .int .i64 e1]))
    (hM : Ret 18 #[.int .i64 s, .int .i64 a, .int .i64 b] (.tuple #[.int .i64 x2, .int .i64 e2]))
    (hM2 : Ret 18 #[.int .i64 s, .int .i64 b, .int .i64 a] (.tuple #[.int .i64 x2, .int .i64 e2]))
    (g1 : (e1 == 0) = true)
    (hS : Ret 16 #[.int .i64 s, .int .i64 x1, .int .i64 b] (.tuple #[.int .i64 a, .int .i64 0]))
    (g2 : 0 ≤ b) (g3 : b ≤ 70)
    (hP : Ret 22 #[.int .i64 s, .int .i64 a, .int .i64 b] (.tuple #[.int .i64 p, .int .i64 e3]))
    (g4 : (e3 != 0) = false)
    (hX : Ret 22 #[.int .i64 s, .int .i64 a, .int .i64 (b / 2)] (.tuple #[.int .i64 x, .int .i64 0]))
    (hY : Ret 22 #[.int .i64 s, .int .i64 a, .int .i64 (b - b / 2)] (.tuple #[.int .i64 y, .int .i64 0]))
    (hZ : Ret 18 #[.int .i64 s, .int .i64 x, .int .i64 y] (.tuple #[.int .i64 p, .int .i64 0]))
    : Calls Try.prog 5 #[.int .i64 s, .int .i64 a, .int .i64 b] w fun e w' => e = .returned (.bool true) ∧ Below w.heap.size w w' := by
  have HB := Aside0.mk (Below.refl w.heap.size w)
  go_enter Try.func5, Try.ntmps5
  go_wp2_with fail
  refine (h9 _).mono ?_
  rintro e w2 ⟨rfl, hb⟩; have HB' := Aside0.mk (below_step HB.out hb); clear HB; have HB := HB'; clear HB' hb
  go_wp2_with fail
  refine (hA _).mono ?_
  rintro e w2 ⟨rfl, hb⟩; have HB' := Aside0.mk (below_step HB.out hb); clear HB; have HB := HB'; clear HB' hb
  go_wp2_with fail
  refine (one_calls _ _ _).mono ?_
  rintro e w3 ⟨pp, qq, rfl, hp, hq, hpb, hqb, hb⟩; have HB' := Aside0.mk (below_step HB.out hb); clear HB; have HB := HB'; clear HB' hb
  go_wp2_with fail
  refine (hA2 _).mono ?_
  rintro e w4 ⟨rfl, hb⟩
  have hp' := (hb.cell hpb).trans hp
  have hq' := (hb.cell hqb).trans hq
  have hpb' := Nat.lt_of_lt_of_le hpb hb.size
  have hqb' := Nat.lt_of_lt_of_le hqb hb.size
  clear hp hq hpb hqb
  have hp := hp'; have hq := hq'; have hpb := hpb'; have hqb := hqb'
  clear hp' hq' hpb' hqb'
  have HB' := Aside0.mk (below_step HB.out hb); clear HB; have HB := HB'; clear HB' hb
  go_wp2_with fail
  refine (one1_yes pp qq _ _ _ hp hq).mono ?_
  rintro e w5 ⟨rfl, rfl⟩
  clear hp hq hpb hqb
  go_wp2_with fail
  refine (hM _).mono ?_
  rintro e w2 ⟨rfl, hb⟩; have HB' := Aside0.mk (below_step HB.out hb); clear HB; have HB := HB'; clear HB' hb
  go_wp2_with fail
  refine (one_calls _ _ _).mono ?_
  rintro e w3 ⟨pp, qq, rfl, hp, hq, hpb, hqb, hb⟩; have HB' := Aside0.mk (below_step HB.out hb); clear HB; have HB := HB'; clear HB' hb
  go_wp2_with fail
  refine (hM2 _).mono ?_
  rintro e w4 ⟨rfl, hb⟩
  have hp' := (hb.cell hpb).trans hp
  have hq' := (hb.cell hqb).trans hq
  have hpb' := Nat.lt_of_lt_of_le hpb hb.size
  have hqb' := Nat.lt_of_lt_of_le hqb hb.size
  clear hp hq hpb hqb
  have hp := hp'; have hq := hq'; have hpb := hpb'; have hqb := hqb'
  clear hp' hq' hpb' hqb'
  have HB' := Aside0.mk (below_step HB.out hb); clear HB; have HB := HB'; clear HB' hb
  go_wp2_with fail
  refine (one1_yes pp qq _ _ _ hp hq).mono ?_
  rintro e w5 ⟨rfl, rfl⟩
  clear hp hq hpb hqb
  go_wp2_with fail
  refine (hA _).mono ?_
  rintro e w2 ⟨rfl, hb⟩; have HB' := Aside0.mk (below_step HB.out hb); clear HB; have HB := HB'; clear HB' hb
  go_wp2_with fail
  refine (hS _).mono ?_
  rintro e w2 ⟨rfl, hb⟩; have HB' := Aside0.mk (below_step HB.out hb); clear HB; have HB := HB'; clear HB' hb
  go_wp2_with fail
  refine (one_calls _ _ _).mono ?_
  rintro e w3 ⟨pp, qq, rfl, hp, hq, hpb, hqb, hb⟩; have HB' := Aside0.mk (below_step HB.out hb); clear HB; have HB := HB'; clear HB' hb
  go_wp2_with fail
  refine (one1_yes _ _ _ _ _ hp hq).mono ?_
  rintro e w5 ⟨rfl, rfl⟩
  clear hp hq hpb hqb
  go_wp2_with fail
  refine (hP _).mono ?_
  rintro e w2 ⟨rfl, hb⟩; have HB' := Aside0.mk (below_step HB.out hb); clear HB; have HB := HB'; clear HB' hb
  go_wp2_with fail
  refine (hX _).mono ?_
  rintro e w2 ⟨rfl, hb⟩; have HB' := Aside0.mk (below_step HB.out hb); clear HB; have HB := HB'; clear HB' hb
  go_wp2_with fail
  refine (hY _).mono ?_
  rintro e w2 ⟨rfl, hb⟩; have HB' := Aside0.mk (below_step HB.out hb); clear HB; have HB := HB'; clear HB' hb
  go_wp2_with fail
  refine (hZ _).mono ?_
  rintro e w2 ⟨rfl, hb⟩; have HB' := Aside0.mk (below_step HB.out hb); clear HB; have HB := HB'; clear HB' hb
  go_wp2_with fail
  refine (one_calls _ _ _).mono ?_
  rintro e w3 ⟨pp, qq, rfl, hp, hq, hpb, hqb, hb⟩; have HB' := Aside0.mk (below_step HB.out hb); clear HB; have HB := HB'; clear HB' hb
  go_wp2_with fail
  refine (one1_yes _ _ _ _ _ hp hq).mono ?_
  rintro e w5 ⟨rfl, rfl⟩
  clear hp hq hpb hqb
  go_wp2_with fail
  go_ret
  exact ⟨rfl, HB.out⟩
set_option maxHeartbeats 4000000 in
set_option maxRecDepth 100000 in
theorem sums_no_low (s a b x1 e1 x2 e2 : Int) (w : World) (h9 : Ret 9 #[] (.bool true))
    (hA : Ret 14 #[.int .i64 s, .int .i64 a, .int .i64 b] (.tuple #[.int .i64 x1, .int .i64 e1]))
    (hA2 : Ret 14 #[.int .i64 s, .int .i64 b, .int .i64 a] (.tuple #[.int .i64 x1, .int .i64 e1]))
    (hM : Ret 18 #[.int .i64 s, .int .i64 a, .int .i64 b] (.tuple #[.int .i64 x2, .int .i64 e2]))
    (hM2 : Ret 18 #[.int .i64 s, .int .i64 b, .int .i64 a] (.tuple #[.int .i64 x2, .int .i64 e2]))
    (g1 : (e1 == 0) = false)
    (g2 : b < 0)
    : Calls Try.prog 5 #[.int .i64 s, .int .i64 a, .int .i64 b] w fun e w' => e = .returned (.bool true) ∧ Below w.heap.size w w' := by
  have HB := Aside0.mk (Below.refl w.heap.size w)
  go_enter Try.func5, Try.ntmps5
  go_wp2_with fail
  refine (h9 _).mono ?_
  rintro e w2 ⟨rfl, hb⟩; have HB' := Aside0.mk (below_step HB.out hb); clear HB; have HB := HB'; clear HB' hb
  go_wp2_with fail
  refine (hA _).mono ?_
  rintro e w2 ⟨rfl, hb⟩; have HB' := Aside0.mk (below_step HB.out hb); clear HB; have HB := HB'; clear HB' hb
  go_wp2_with fail
  refine (one_calls _ _ _).mono ?_
  rintro e w3 ⟨pp, qq, rfl, hp, hq, hpb, hqb, hb⟩; have HB' := Aside0.mk (below_step HB.out hb); clear HB; have HB := HB'; clear HB' hb
  go_wp2_with fail
  refine (hA2 _).mono ?_
  rintro e w4 ⟨rfl, hb⟩
  have hp' := (hb.cell hpb).trans hp
  have hq' := (hb.cell hqb).trans hq
  have hpb' := Nat.lt_of_lt_of_le hpb hb.size
  have hqb' := Nat.lt_of_lt_of_le hqb hb.size
  clear hp hq hpb hqb
  have hp := hp'; have hq := hq'; have hpb := hpb'; have hqb := hqb'
  clear hp' hq' hpb' hqb'
  have HB' := Aside0.mk (below_step HB.out hb); clear HB; have HB := HB'; clear HB' hb
  go_wp2_with fail
  refine (one1_yes pp qq _ _ _ hp hq).mono ?_
  rintro e w5 ⟨rfl, rfl⟩
  clear hp hq hpb hqb
  go_wp2_with fail
  refine (hM _).mono ?_
  rintro e w2 ⟨rfl, hb⟩; have HB' := Aside0.mk (below_step HB.out hb); clear HB; have HB := HB'; clear HB' hb
  go_wp2_with fail
  refine (one_calls _ _ _).mono ?_
  rintro e w3 ⟨pp, qq, rfl, hp, hq, hpb, hqb, hb⟩; have HB' := Aside0.mk (below_step HB.out hb); clear HB; have HB := HB'; clear HB' hb
  go_wp2_with fail
  refine (hM2 _).mono ?_
  rintro e w4 ⟨rfl, hb⟩
  have hp' := (hb.cell hpb).trans hp
  have hq' := (hb.cell hqb).trans hq
  have hpb' := Nat.lt_of_lt_of_le hpb hb.size
  have hqb' := Nat.lt_of_lt_of_le hqb hb.size
  clear hp hq hpb hqb
  have hp := hp'; have hq := hq'; have hpb := hpb'; have hqb := hqb'
  clear hp' hq' hpb' hqb'
  have HB' := Aside0.mk (below_step HB.out hb); clear HB; have HB := HB'; clear HB' hb
  go_wp2_with fail
  refine (one1_yes pp qq _ _ _ hp hq).mono ?_
  rintro e w5 ⟨rfl, rfl⟩
  clear hp hq hpb hqb
  go_wp2_with fail
  refine (hA _).mono ?_
  rintro e w2 ⟨rfl, hb⟩; have HB' := Aside0.mk (below_step HB.out hb); clear HB; have HB := HB'; clear HB' hb
  go_wp2_with fail
  go_ret
  exact ⟨rfl, HB.out⟩
set_option maxHeartbeats 4000000 in
set_option maxRecDepth 100000 in
theorem sums_no_high (s a b x1 e1 x2 e2 : Int) (w : World) (h9 : Ret 9 #[] (.bool true))
    (hA : Ret 14 #[.int .i64 s, .int .i64 a, .int .i64 b] (.tuple #[.int .i64 x1, .int .i64 e1]))
    (hA2 : Ret 14 #[.int .i64 s, .int .i64 b, .int .i64 a] (.tuple #[.int .i64 x1, .int .i64 e1]))
    (hM : Ret 18 #[.int .i64 s, .int .i64 a, .int .i64 b] (.tuple #[.int .i64 x2, .int .i64 e2]))
    (hM2 : Ret 18 #[.int .i64 s, .int .i64 b, .int .i64 a] (.tuple #[.int .i64 x2, .int .i64 e2]))
    (g1 : (e1 == 0) = false)
    (g2 : 0 ≤ b) (g3 : 70 < b)
    : Calls Try.prog 5 #[.int .i64 s, .int .i64 a, .int .i64 b] w fun e w' => e = .returned (.bool true) ∧ Below w.heap.size w w' := by
  have HB := Aside0.mk (Below.refl w.heap.size w)
  go_enter Try.func5, Try.ntmps5
  go_wp2_with fail
  refine (h9 _).mono ?_
  rintro e w2 ⟨rfl, hb⟩; have HB' := Aside0.mk (below_step HB.out hb); clear HB; have HB := HB'; clear HB' hb
  go_wp2_with fail
  refine (hA _).mono ?_
  rintro e w2 ⟨rfl, hb⟩; have HB' := Aside0.mk (below_step HB.out hb); clear HB; have HB := HB'; clear HB' hb
  go_wp2_with fail
  refine (one_calls _ _ _).mono ?_
  rintro e w3 ⟨pp, qq, rfl, hp, hq, hpb, hqb, hb⟩; have HB' := Aside0.mk (below_step HB.out hb); clear HB; have HB := HB'; clear HB' hb
  go_wp2_with fail
  refine (hA2 _).mono ?_
  rintro e w4 ⟨rfl, hb⟩
  have hp' := (hb.cell hpb).trans hp
  have hq' := (hb.cell hqb).trans hq
  have hpb' := Nat.lt_of_lt_of_le hpb hb.size
  have hqb' := Nat.lt_of_lt_of_le hqb hb.size
  clear hp hq hpb hqb
  have hp := hp'; have hq := hq'; have hpb := hpb'; have hqb := hqb'
  clear hp' hq' hpb' hqb'
  have HB' := Aside0.mk (below_step HB.out hb); clear HB; have HB := HB'; clear HB' hb
  go_wp2_with fail
  refine (one1_yes pp qq _ _ _ hp hq).mono ?_
  rintro e w5 ⟨rfl, rfl⟩
  clear hp hq hpb hqb
  go_wp2_with fail
  refine (hM _).mono ?_
  rintro e w2 ⟨rfl, hb⟩; have HB' := Aside0.mk (below_step HB.out hb); clear HB; have HB := HB'; clear HB' hb
  go_wp2_with fail
  refine (one_calls _ _ _).mono ?_
  rintro e w3 ⟨pp, qq, rfl, hp, hq, hpb, hqb, hb⟩; have HB' := Aside0.mk (below_step HB.out hb); clear HB; have HB := HB'; clear HB' hb
  go_wp2_with fail
  refine (hM2 _).mono ?_
  rintro e w4 ⟨rfl, hb⟩
  have hp' := (hb.cell hpb).trans hp
  have hq' := (hb.cell hqb).trans hq
  have hpb' := Nat.lt_of_lt_of_le hpb hb.size
  have hqb' := Nat.lt_of_lt_of_le hqb hb.size
  clear hp hq hpb hqb
  have hp := hp'; have hq := hq'; have hpb := hpb'; have hqb := hqb'
  clear hp' hq' hpb' hqb'
  have HB' := Aside0.mk (below_step HB.out hb); clear HB; have HB := HB'; clear HB' hb
  go_wp2_with fail
  refine (one1_yes pp qq _ _ _ hp hq).mono ?_
  rintro e w5 ⟨rfl, rfl⟩
  clear hp hq hpb hqb
  go_wp2_with fail
  refine (hA _).mono ?_
  rintro e w2 ⟨rfl, hb⟩; have HB' := Aside0.mk (below_step HB.out hb); clear HB; have HB := HB'; clear HB' hb
  go_wp2_with fail
  go_ret
  exact ⟨rfl, HB.out⟩
set_option maxHeartbeats 4000000 in
set_option maxRecDepth 100000 in
theorem sums_no_perr (s a b x1 e1 x2 e2 p e3 : Int) (w : World) (h9 : Ret 9 #[] (.bool true))
    (hA : Ret 14 #[.int .i64 s, .int .i64 a, .int .i64 b] (.tuple #[.int .i64 x1, .int .i64 e1]))
    (hA2 : Ret 14 #[.int .i64 s, .int .i64 b, .int .i64 a] (.tuple #[.int .i64 x1, .int .i64 e1]))
    (hM : Ret 18 #[.int .i64 s, .int .i64 a, .int .i64 b] (.tuple #[.int .i64 x2, .int .i64 e2]))
    (hM2 : Ret 18 #[.int .i64 s, .int .i64 b, .int .i64 a] (.tuple #[.int .i64 x2, .int .i64 e2]))
    (g1 : (e1 == 0) = false)
    (g2 : 0 ≤ b) (g3 : b ≤ 70)
    (hP : Ret 22 #[.int .i64 s, .int .i64 a, .int .i64 b] (.tuple #[.int .i64 p, .int .i64 e3]))
    (g4 : (e3 != 0) = true)
    : Calls Try.prog 5 #[.int .i64 s, .int .i64 a, .int .i64 b] w fun e w' => e = .returned (.bool true) ∧ Below w.heap.size w w' := by
  have HB := Aside0.mk (Below.refl w.heap.size w)
  go_enter Try.func5, Try.ntmps5
  go_wp2_with fail
  refine (h9 _).mono ?_
  rintro e w2 ⟨rfl, hb⟩; have HB' := Aside0.mk (below_step HB.out hb); clear HB; have HB := HB'; clear HB' hb
  go_wp2_with fail
  refine (hA _).mono ?_
  rintro e w2 ⟨rfl, hb⟩; have HB' := Aside0.mk (below_step HB.out hb); clear HB; have HB := HB'; clear HB' hb
  go_wp2_with fail
  refine (one_calls _ _ _).mono ?_
  rintro e w3 ⟨pp, qq, rfl, hp, hq, hpb, hqb, hb⟩; have HB' := Aside0.mk (below_step HB.out hb); clear HB; have HB := HB'; clear HB' hb
  go_wp2_with fail
  refine (hA2 _).mono ?_
  rintro e w4 ⟨rfl, hb⟩
  have hp' := (hb.cell hpb).trans hp
  have hq' := (hb.cell hqb).trans hq
  have hpb' := Nat.lt_of_lt_of_le hpb hb.size
  have hqb' := Nat.lt_of_lt_of_le hqb hb.size
  clear hp hq hpb hqb
  have hp := hp'; have hq := hq'; have hpb := hpb'; have hqb := hqb'
  clear hp' hq' hpb' hqb'
  have HB' := Aside0.mk (below_step HB.out hb); clear HB; have HB := HB'; clear HB' hb
  go_wp2_with fail
  refine (one1_yes pp qq _ _ _ hp hq).mono ?_
  rintro e w5 ⟨rfl, rfl⟩
  clear hp hq hpb hqb
  go_wp2_with fail
  refine (hM _).mono ?_
  rintro e w2 ⟨rfl, hb⟩; have HB' := Aside0.mk (below_step HB.out hb); clear HB; have HB := HB'; clear HB' hb
  go_wp2_with fail
  refine (one_calls _ _ _).mono ?_
  rintro e w3 ⟨pp, qq, rfl, hp, hq, hpb, hqb, hb⟩; have HB' := Aside0.mk (below_step HB.out hb); clear HB; have HB := HB'; clear HB' hb
  go_wp2_with fail
  refine (hM2 _).mono ?_
  rintro e w4 ⟨rfl, hb⟩
  have hp' := (hb.cell hpb).trans hp
  have hq' := (hb.cell hqb).trans hq
  have hpb' := Nat.lt_of_lt_of_le hpb hb.size
  have hqb' := Nat.lt_of_lt_of_le hqb hb.size
  clear hp hq hpb hqb
  have hp := hp'; have hq := hq'; have hpb := hpb'; have hqb := hqb'
  clear hp' hq' hpb' hqb'
  have HB' := Aside0.mk (below_step HB.out hb); clear HB; have HB := HB'; clear HB' hb
  go_wp2_with fail
  refine (one1_yes pp qq _ _ _ hp hq).mono ?_
  rintro e w5 ⟨rfl, rfl⟩
  clear hp hq hpb hqb
  go_wp2_with fail
  refine (hA _).mono ?_
  rintro e w2 ⟨rfl, hb⟩; have HB' := Aside0.mk (below_step HB.out hb); clear HB; have HB := HB'; clear HB' hb
  go_wp2_with fail
  refine (hP _).mono ?_
  rintro e w2 ⟨rfl, hb⟩; have HB' := Aside0.mk (below_step HB.out hb); clear HB; have HB := HB'; clear HB' hb
  go_wp2_with fail
  go_ret
  exact ⟨rfl, HB.out⟩
set_option maxHeartbeats 4000000 in
set_option maxRecDepth 100000 in
theorem sums_no_pok (s a b x1 e1 x2 e2 p e3 x y : Int) (w : World) (h9 : Ret 9 #[] (.bool true))
    (hA : Ret 14 #[.int .i64 s, .int .i64 a, .int .i64 b] (.tuple #[.int .i64 x1, .int .i64 e1]))
    (hA2 : Ret 14 #[.int .i64 s, .int .i64 b, .int .i64 a] (.tuple #[.int .i64 x1, .int .i64 e1]))
    (hM : Ret 18 #[.int .i64 s, .int .i64 a, .int .i64 b] (.tuple #[.int .i64 x2, .int .i64 e2]))
    (hM2 : Ret 18 #[.int .i64 s, .int .i64 b, .int .i64 a] (.tuple #[.int .i64 x2, .int .i64 e2]))
    (g1 : (e1 == 0) = false)
    (g2 : 0 ≤ b) (g3 : b ≤ 70)
    (hP : Ret 22 #[.int .i64 s, .int .i64 a, .int .i64 b] (.tuple #[.int .i64 p, .int .i64 e3]))
    (g4 : (e3 != 0) = false)
    (hX : Ret 22 #[.int .i64 s, .int .i64 a, .int .i64 (b / 2)] (.tuple #[.int .i64 x, .int .i64 0]))
    (hY : Ret 22 #[.int .i64 s, .int .i64 a, .int .i64 (b - b / 2)] (.tuple #[.int .i64 y, .int .i64 0]))
    (hZ : Ret 18 #[.int .i64 s, .int .i64 x, .int .i64 y] (.tuple #[.int .i64 p, .int .i64 0]))
    : Calls Try.prog 5 #[.int .i64 s, .int .i64 a, .int .i64 b] w fun e w' => e = .returned (.bool true) ∧ Below w.heap.size w w' := by
  have HB := Aside0.mk (Below.refl w.heap.size w)
  go_enter Try.func5, Try.ntmps5
  go_wp2_with fail
  refine (h9 _).mono ?_
  rintro e w2 ⟨rfl, hb⟩; have HB' := Aside0.mk (below_step HB.out hb); clear HB; have HB := HB'; clear HB' hb
  go_wp2_with fail
  refine (hA _).mono ?_
  rintro e w2 ⟨rfl, hb⟩; have HB' := Aside0.mk (below_step HB.out hb); clear HB; have HB := HB'; clear HB' hb
  go_wp2_with fail
  refine (one_calls _ _ _).mono ?_
  rintro e w3 ⟨pp, qq, rfl, hp, hq, hpb, hqb, hb⟩; have HB' := Aside0.mk (below_step HB.out hb); clear HB; have HB := HB'; clear HB' hb
  go_wp2_with fail
  refine (hA2 _).mono ?_
  rintro e w4 ⟨rfl, hb⟩
  have hp' := (hb.cell hpb).trans hp
  have hq' := (hb.cell hqb).trans hq
  have hpb' := Nat.lt_of_lt_of_le hpb hb.size
  have hqb' := Nat.lt_of_lt_of_le hqb hb.size
  clear hp hq hpb hqb
  have hp := hp'; have hq := hq'; have hpb := hpb'; have hqb := hqb'
  clear hp' hq' hpb' hqb'
  have HB' := Aside0.mk (below_step HB.out hb); clear HB; have HB := HB'; clear HB' hb
  go_wp2_with fail
  refine (one1_yes pp qq _ _ _ hp hq).mono ?_
  rintro e w5 ⟨rfl, rfl⟩
  clear hp hq hpb hqb
  go_wp2_with fail
  refine (hM _).mono ?_
  rintro e w2 ⟨rfl, hb⟩; have HB' := Aside0.mk (below_step HB.out hb); clear HB; have HB := HB'; clear HB' hb
  go_wp2_with fail
  refine (one_calls _ _ _).mono ?_
  rintro e w3 ⟨pp, qq, rfl, hp, hq, hpb, hqb, hb⟩; have HB' := Aside0.mk (below_step HB.out hb); clear HB; have HB := HB'; clear HB' hb
  go_wp2_with fail
  refine (hM2 _).mono ?_
  rintro e w4 ⟨rfl, hb⟩
  have hp' := (hb.cell hpb).trans hp
  have hq' := (hb.cell hqb).trans hq
  have hpb' := Nat.lt_of_lt_of_le hpb hb.size
  have hqb' := Nat.lt_of_lt_of_le hqb hb.size
  clear hp hq hpb hqb
  have hp := hp'; have hq := hq'; have hpb := hpb'; have hqb := hqb'
  clear hp' hq' hpb' hqb'
  have HB' := Aside0.mk (below_step HB.out hb); clear HB; have HB := HB'; clear HB' hb
  go_wp2_with fail
  refine (one1_yes pp qq _ _ _ hp hq).mono ?_
  rintro e w5 ⟨rfl, rfl⟩
  clear hp hq hpb hqb
  go_wp2_with fail
  refine (hA _).mono ?_
  rintro e w2 ⟨rfl, hb⟩; have HB' := Aside0.mk (below_step HB.out hb); clear HB; have HB := HB'; clear HB' hb
  go_wp2_with fail
  refine (hP _).mono ?_
  rintro e w2 ⟨rfl, hb⟩; have HB' := Aside0.mk (below_step HB.out hb); clear HB; have HB := HB'; clear HB' hb
  go_wp2_with fail
  refine (hX _).mono ?_
  rintro e w2 ⟨rfl, hb⟩; have HB' := Aside0.mk (below_step HB.out hb); clear HB; have HB := HB'; clear HB' hb
  go_wp2_with fail
  refine (hY _).mono ?_
  rintro e w2 ⟨rfl, hb⟩; have HB' := Aside0.mk (below_step HB.out hb); clear HB; have HB := HB'; clear HB' hb
  go_wp2_with fail
  refine (hZ _).mono ?_
  rintro e w2 ⟨rfl, hb⟩; have HB' := Aside0.mk (below_step HB.out hb); clear HB; have HB := HB'; clear HB' hb
  go_wp2_with fail
  refine (one_calls _ _ _).mono ?_
  rintro e w3 ⟨pp, qq, rfl, hp, hq, hpb, hqb, hb⟩; have HB' := Aside0.mk (below_step HB.out hb); clear HB; have HB := HB'; clear HB' hb
  go_wp2_with fail
  refine (one1_yes _ _ _ _ _ hp hq).mono ?_
  rintro e w5 ⟨rfl, rfl⟩
  clear hp hq hpb hqb
  go_wp2_with fail
  go_ret
  exact ⟨rfl, HB.out⟩

end Go.Proofs.Ytgifknjcdkhmmaa.SumsWalk
