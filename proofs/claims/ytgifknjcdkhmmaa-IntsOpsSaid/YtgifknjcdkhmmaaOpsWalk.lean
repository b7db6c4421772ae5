import Derived.Test.YtgifknjcdkhmmaaPIntsOpsx3
namespace Go.Proofs.Ytgifknjcdkhmmaa.OpsWalk
open Go.RowKit Go.Proofs.Ytgifknjcdkhmmaa.PIntsOps Go.Proofs.YtgifknjcdkhmmaaW.PrintWords Go.Proofs.YtgifknjcdkhmmaaW.PrintLast Go.Proofs.YtgifknjcdkhmmaaW.PrintMore
/-- the call of function f with these values returns v, and nothing that was there has changed -/
def Ret (f : Nat) (args : Array Value) (v : Value) : Prop := ∀ w, Calls Try.prog f args w fun e w' => e = .returned v ∧ Below w.heap.size w w'
theorem ret_b {f : Nat} {args : Array Value} {v : Value} (h : ∀ w, Calls Try.prog f args w fun e w' => e = .returned v ∧ Below w.heap.size w w') : Ret f args v := h
theorem ret_d {f : Nat} {args : Array Value} {v : Value} (h : ∀ w, Calls Try.prog f args w fun e w' => e = .returned v ∧ Drawn0 w w') : Ret f args v := fun w => (h w).mono fun _ _ ⟨he, hd⟩ => ⟨he, hd.below⟩
theorem ret_s {f : Nat} {args : Array Value} {v : Value} (h : ∀ w, Calls Try.prog f args w fun e w' => e = .returned v ∧ w = w') : Ret f args v := fun w => (h w).mono fun _ _ ⟨he, hd⟩ => ⟨he, hd ▸ Below.refl _ _⟩

def OneP (a e : Int) (w : World) (en : Ending) (w' : World) : Prop := ∃ p q : Addr, en = .returned (.func (Fn.func 63) #[] #[.pointer (some p), .pointer (some q)]) ∧ w'.cell? p = some (.int .i64 a) ∧ w'.cell? q = some (.int .i64 e) ∧ p.block < w'.heap.size ∧ q.block < w'.heap.size ∧ Below w.heap.size w w'
theorem one_calls (a e : Int) (w : World) : Calls Try.prog 13 #[.int .i64 a, .int .i64 e] w (OneP a e w) := by
  go_enter Try.func13, Try.ntmps13
  go_wp2
  go_ret
  refine ⟨⟨w.heap.size, 0, none⟩, ⟨w.heap.size + 1, 0, none⟩, rfl, ?_, ?_, ?_, ?_, ((Below.refl _ _).alloc (Nat.le_refl _) _).alloc (by simp) _⟩
  · go_simp
  · go_simp
  · go_simp
  · go_simp
theorem one1_yes (p q : Addr) (a e : Int) (w : World) (hp : w.cell? p = some (.int .i64 a)) (hq : w.cell? q = some (.int .i64 e)) : Calls Try.prog 63 #[.int .i64 a, .int .i64 e, .pointer (some p), .pointer (some q)] w fun en w' => en = .returned (.bool true) ∧ w = w' := by
  go_enter Try.func63, Try.ntmps63
  go_wp2
  go_ret
  exact ⟨rfl, rfl⟩

set_option maxHeartbeats 4000000 in
set_option maxRecDepth 100000 in
theorem ops_walk (s a b : Int) (x14 e14 x16 e16 x18 e18 x10 e10 x11 e11 x22 e22 : Int) (w : World) (h9 : Ret 9 #[] (.bool true))
    (h14 : Ret 14 #[.int .i64 s, .int .i64 a, .int .i64 b] (.tuple #[.int .i64 x14, .int .i64 e14]))
    (h15 : Ret 15 #[.int .i64 s, .int .i64 a, .int .i64 b] (.tuple #[.int .i64 x14, .int .i64 e14]))
    (h16 : Ret 16 #[.int .i64 s, .int .i64 a, .int .i64 b] (.tuple #[.int .i64 x16, .int .i64 e16]))
    (h17 : Ret 17 #[.int .i64 s, .int .i64 a, .int .i64 b] (.tuple #[.int .i64 x16, .int .i64 e16]))
    (h18 : Ret 18 #[.int .i64 s, .int .i64 a, .int .i64 b] (.tuple #[.int .i64 x18, .int .i64 e18]))
    (h19 : Ret 19 #[.int .i64 s, .int .i64 a, .int .i64 b] (.tuple #[.int .i64 x18, .int .i64 e18]))
    (h10 : Ret 10 #[.int .i64 s, .int .i64 a, .int .i64 b] (.tuple #[.int .i64 x10, .int .i64 e10]))
    (h20 : Ret 20 #[.int .i64 s, .int .i64 a, .int .i64 b] (.tuple #[.int .i64 x10, .int .i64 e10]))
    (h11 : Ret 11 #[.int .i64 s, .int .i64 a, .int .i64 b] (.tuple #[.int .i64 x11, .int .i64 e11]))
    (h21 : Ret 21 #[.int .i64 s, .int .i64 a, .int .i64 b] (.tuple #[.int .i64 x11, .int .i64 e11]))
    (h22 : Ret 22 #[.int .i64 s, .int .i64 a, .int .i64 b] (.tuple #[.int .i64 x22, .int .i64 e22]))
    (h23 : Ret 23 #[.int .i64 s, .int .i64 a, .int .i64 b] (.tuple #[.int .i64 x22, .int .i64 e22]))
    : Calls Try.prog 4 #[.int .i64 s, .int .i64 a, .int .i64 b] w fun e w' => e = .returned (.bool true) ∧ Below w.heap.size w w' := by
  have HB := Aside0.mk (Below.refl w.heap.size w)
  go_enter Try.func4, Try.ntmps4
  go_wp2_with fail
  refine (h9 _).mono ?_
  rintro e w2 ⟨rfl, hb⟩; have HB' := Aside0.mk (below_step HB.out hb); clear HB; have HB := HB'; clear HB' hb
  go_wp2_with fail
  refine (h14 _).mono ?_
  rintro e w2 ⟨rfl, hb⟩; have HB' := Aside0.mk (below_step HB.out hb); clear HB; have HB := HB'; clear HB' hb
  go_wp2_with fail
  refine (one_calls _ _ _).mono ?_
  rintro e w3 ⟨p, q, rfl, hp, hq, hpb, hqb, hb⟩; have HB' := Aside0.mk (below_step HB.out hb); clear HB; have HB := HB'; clear HB' hb
  go_wp2_with fail
  refine (h15 _).mono ?_
  rintro e w4 ⟨rfl, hb⟩
  have hp' := (hb.cell hpb).trans hp
  have hq' := (hb.cell hqb).trans hq
  have hpb' := Nat.lt_of_lt_of_le hpb hb.size
  have hqb' := Nat.lt_of_lt_of_le hqb hb.size
  clear hp hq hpb hqb
  have hp := hp'; have hq := hq'; have hpb := hpb'; have hqb := hqb'
  clear hp' hq' hpb' hqb'
  have HB' := Aside0.mk (below_step HB.out hb); clear HB; have HB := HB'; clear HB' hb
  go_wp2_with fail
  refine (one1_yes p q _ _ _ hp hq).mono ?_
  rintro e w5 ⟨rfl, rfl⟩
  clear hp hq hpb hqb
  go_wp2_with fail
  refine (h16 _).mono ?_
  rintro e w2 ⟨rfl, hb⟩; have HB' := Aside0.mk (below_step HB.out hb); clear HB; have HB := HB'; clear HB' hb
  go_wp2_with fail
  refine (one_calls _ _ _).mono ?_
  rintro e w3 ⟨p, q, rfl, hp, hq, hpb, hqb, hb⟩; have HB' := Aside0.mk (below_step HB.out hb); clear HB; have HB := HB'; clear HB' hb
  go_wp2_with fail
  refine (h17 _).mono ?_
  rintro e w4 ⟨rfl, hb⟩
  have hp' := (hb.cell hpb).trans hp
  have hq' := (hb.cell hqb).trans hq
  have hpb' := Nat.lt_of_lt_of_le hpb hb.size
  have hqb' := Nat.lt_of_lt_of_le hqb hb.size
  clear hp hq hpb hqb
  have hp := hp'; have hq := hq'; have hpb := hpb'; have hqb := hqb'
  clear hp' hq' hpb' hqb'
  have HB' := Aside0.mk (below_step HB.out hb); clear HB; have HB := HB'; clear HB' hb
  go_wp2_with fail
  refine (one1_yes p q _ _ _ hp hq).mono ?_
  rintro e w5 ⟨rfl, rfl⟩
  clear hp hq hpb hqb
  go_wp2_with fail
  refine (h18 _).mono ?_
  rintro e w2 ⟨rfl, hb⟩; have HB' := Aside0.mk (below_step HB.out hb); clear HB; have HB := HB'; clear HB' hb
  go_wp2_with fail
  refine (one_calls _ _ _).mono ?_
  rintro e w3 ⟨p, q, rfl, hp, hq, hpb, hqb, hb⟩; have HB' := Aside0.mk (below_step HB.out hb); clear HB; have HB := HB'; clear HB' hb
  go_wp2_with fail
  refine (h19 _).mono ?_
  rintro e w4 ⟨rfl, hb⟩
  have hp' := (hb.cell hpb).trans hp
  have hq' := (hb.cell hqb).trans hq
  have hpb' := Nat.lt_of_lt_of_le hpb hb.size
  have hqb' := Nat.lt_of_lt_of_le hqb hb.size
  clear hp hq hpb hqb
  have hp := hp'; have hq := hq'; have hpb := hpb'; have hqb := hqb'
  clear hp' hq' hpb' hqb'
  have HB' := Aside0.mk (below_step HB.out hb); clear HB; have HB := HB'; clear HB' hb
  go_wp2_with fail
  refine (one1_yes p q _ _ _ hp hq).mono ?_
  rintro e w5 ⟨rfl, rfl⟩
  clear hp hq hpb hqb
  go_wp2_with fail
  refine (h10 _).mono ?_
  rintro e w2 ⟨rfl, hb⟩; have HB' := Aside0.mk (below_step HB.out hb); clear HB; have HB := HB'; clear HB' hb
  go_wp2_with fail
  refine (one_calls _ _ _).mono ?_
  rintro e w3 ⟨p, q, rfl, hp, hq, hpb, hqb, hb⟩; have HB' := Aside0.mk (below_step HB.out hb); clear HB; have HB := HB'; clear HB' hb
  go_wp2_with fail
  refine (h20 _).mono ?_
  rintro e w4 ⟨rfl, hb⟩
  have hp' := (hb.cell hpb).trans hp
  have hq' := (hb.cell hqb).trans hq
  have hpb' := Nat.lt_of_lt_of_le hpb hb.size
  have hqb' := Nat.lt_of_lt_of_le hqb hb.size
  clear hp hq hpb hqb
  have hp := hp'; have hq := hq'; have hpb := hpb'; have hqb := hqb'
  clear hp' hq' hpb' hqb'
  have HB' := Aside0.mk (below_step HB.out hb); clear HB; have HB := HB'; clear HB' hb
  go_wp2_with fail
  refine (one1_yes p q _ _ _ hp hq).mono ?_
  rintro e w5 ⟨rfl, rfl⟩
  clear hp hq hpb hqb
  go_wp2_with fail
  refine (h11 _).mono ?_
  rintro e w2 ⟨rfl, hb⟩; have HB' := Aside0.mk (below_step HB.out hb); clear HB; have HB := HB'; clear HB' hb
  go_wp2_with fail
  refine (one_calls _ _ _).mono ?_
  rintro e w3 ⟨p, q, rfl, hp, hq, hpb, hqb, hb⟩; have HB' := Aside0.mk (below_step HB.out hb); clear HB; have HB := HB'; clear HB' hb
  go_wp2_with fail
  refine (h21 _).mono ?_
  rintro e w4 ⟨rfl, hb⟩
  have hp' := (hb.cell hpb).trans hp
  have hq' := (hb.cell hqb).trans hq
  have hpb' := Nat.lt_of_lt_of_le hpb hb.size
  have hqb' := Nat.lt_of_lt_of_le hqb hb.size
  clear hp hq hpb hqb
  have hp := hp'; have hq := hq'; have hpb := hpb'; have hqb := hqb'
  clear hp' hq' hpb' hqb'
  have HB' := Aside0.mk (below_step HB.out hb); clear HB; have HB := HB'; clear HB' hb
  go_wp2_with fail
  refine (one1_yes p q _ _ _ hp hq).mono ?_
  rintro e w5 ⟨rfl, rfl⟩
  clear hp hq hpb hqb
  go_wp2_with fail
  refine (h22 _).mono ?_
  rintro e w2 ⟨rfl, hb⟩; have HB' := Aside0.mk (below_step HB.out hb); clear HB; have HB := HB'; clear HB' hb
  go_wp2_with fail
  refine (one_calls _ _ _).mono ?_
  rintro e w3 ⟨p, q, rfl, hp, hq, hpb, hqb, hb⟩; have HB' := Aside0.mk (below_step HB.out hb); clear HB; have HB := HB'; clear HB' hb
  go_wp2_with fail
  refine (h23 _).mono ?_
  rintro e w4 ⟨rfl, hb⟩
  have hp' := (hb.cell hpb).trans hp
  have hq' := (hb.cell hqb).trans hq
  have hpb' := Nat.lt_of_lt_of_le hpb hb.size
  have hqb' := Nat.lt_of_lt_of_le hqb hb.size
  clear hp hq hpb hqb
  have hp := hp'; have hq := hq'; have hpb := hpb'; have hqb := hqb'
  clear hp' hq' hpb' hqb'
  have HB' := Aside0.mk (below_step HB.out hb); clear HB; have HB := HB'; clear HB' hb
  go_wp2_with fail
  refine (one1_yes p q _ _ _ hp hq).mono ?_
  rintro e w5 ⟨rfl, rfl⟩
  clear hp hq hpb hqb
  go_wp2_with fail
  go_ret
  exact ⟨rfl, HB.out⟩

end Go.Proofs.Ytgifknjcdkhmmaa.OpsWalk
