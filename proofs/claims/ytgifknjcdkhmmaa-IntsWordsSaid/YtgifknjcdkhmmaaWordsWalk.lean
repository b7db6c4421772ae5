import Derived.Test.YtgifknjcdkhmmaaPIntsWordsx4
namespace Go.Proofs.Ytgifknjcdkhmmaa.WordsWalk
open Go.RowKit Go.Proofs.Ytgifknjcdkhmmaa.PIntsWords Go.Proofs.YtgifknjcdkhmmaaW.PrintWords Go.Proofs.YtgifknjcdkhmmaaW.PrintLast Go.Proofs.YtgifknjcdkhmmaaW.PrintMore
/-- the call of function f with these values returns v, and nothing that was there has changed -/
def Ret (f : Nat) (args : Array Value) (v : Value) : Prop := ∀ w, Calls Try.prog f args w fun e w' => e = .returned v ∧ Below w.heap.size w w'
theorem ret_b {f : Nat} {args : Array Value} {v : Value} (h : ∀ w, Calls Try.prog f args w fun e w' => e = .returned v ∧ Below w.heap.size w w') : Ret f args v := h
theorem ret_d {f : Nat} {args : Array Value} {v : Value} (h : ∀ w, Calls Try.prog f args w fun e w' => e = .returned v ∧ Drawn0 w w') : Ret f args v := fun w => (h w).mono fun _ _ ⟨he, hd⟩ => ⟨he, hd.below⟩
theorem ret_s {f : Nat} {args : Array Value} {v : Value} (h : ∀ w, Calls Try.prog f args w fun e w' => e = .returned v ∧ w = w') : Ret f args v := fun w => (h w).mono fun _ _ ⟨he, hd⟩ => ⟨he, hd ▸ Below.refl _ _⟩

def OneP (a e : Int) (w : World) (en : Ending) (w' : World) : Prop := ∃ p q : Addr, en = .returned (.func (Fn.func 63) #[] #[.pointer (some p), .pointer (some q)]) ∧ w'.cell? p = some (.int .i64 a) ∧ w'.cell? q = some (.int .i64 e) ∧ p.block < w'.heap.size ∧ q.block < w'.heap.size ∧ Below w.heap.size w w'
theorem one_calls (a e : Int) (w : World) : Calls Try.prog 13 #[.int .i64 a, .int .i64 e] w (OneP a e w) := by
  go_enter Try.func13, Try.ntmps13
  go_wp2
  go_ret
  refine ⟨⟨w.heap.size, 0, none⟩, ⟨w.heap.size + 1, 0, none⟩, rfl, ?_, ?_, ?_, ?_, ((Below.refl _ _).alloc (Nat.le_refl _) _).alloc (by simp) _⟩
  · go_simp
  · go_simp
  · go_simp
  · go_simp
theorem one1_yes (p q : Addr) (a e : Int) (w : World) (hp : w.cell? p = some (.int .i64 a)) (hq : w.cell? q = some (.int .i64 e)) : Calls Try.prog 63 #[.int .i64 a, .int .i64 e, .pointer (some p), .pointer (some q)] w fun en w' => en = .returned (.bool true) ∧ w = w' := by
  go_enter Try.func63, Try.ntmps63
  go_wp2
  go_ret
  exact ⟨rfl, rfl⟩

set_option maxHeartbeats 8000000 in
set_option maxRecDepth 100000 in
theorem words_walk (s v w : Int) (bb : Bool) (eb x27 e27 x25 e25 x28 e28 x30 e30 x53 e53 x55 e55 x57 e57 x59 e59 : Int) (W : World) (h9 : Ret 9 #[] (.bool true))
    (h29 : Ret 29 #[.int .i64 s, .int .i64 v, .int .i64 w] (.tuple #[.bool bb, .int .i64 eb])) (h48 : Ret 48 #[.int .i64 s, .int .i64 v, .int .i64 w] (.tuple #[.bool bb, .int .i64 eb]))
    (h27 : Ret 27 #[.int .i64 s, .int .i64 w] (.tuple #[.int .i64 x27, .int .i64 e27]))
    (h49 : Ret 49 #[.int .i64 s, .int .i64 w] (.tuple #[.int .i64 x27, .int .i64 e27]))
    (h25 : Ret 25 #[.int .i64 s, .int .i64 v, .int .i64 w] (.tuple #[.int .i64 x25, .int .i64 e25]))
    (h50 : Ret 50 #[.int .i64 s, .int .i64 v, .int .i64 w] (.tuple #[.int .i64 x25, .int .i64 e25]))
    (h28 : Ret 28 #[.int .i64 s, .int .i64 v, .int .i64 w] (.tuple #[.int .i64 x28, .int .i64 e28]))
    (h51 : Ret 51 #[.int .i64 s, .int .i64 v, .int .i64 w] (.tuple #[.int .i64 x28, .int .i64 e28]))
    (h30 : Ret 30 #[.int .i64 s, .int .i64 w, .int .i64 v] (.tuple #[.int .i64 x30, .int .i64 e30]))
    (h52 : Ret 52 #[.int .i64 s, .int .i64 w, .int .i64 v] (.tuple #[.int .i64 x30, .int .i64 e30]))
    (h53 : Ret 53 #[.int .i64 s, .int .i64 w] (.tuple #[.int .i64 x53, .int .i64 e53]))
    (h54 : Ret 54 #[.int .i64 s, .int .i64 w] (.tuple #[.int .i64 x53, .int .i64 e53]))
    (h55 : Ret 55 #[.int .i64 s, .int .i64 w] (.tuple #[.int .i64 x55, .int .i64 e55]))
    (h56 : Ret 56 #[.int .i64 s, .int .i64 w] (.tuple #[.int .i64 x55, .int .i64 e55]))
    (h57 : Ret 57 #[.int .i64 s, .int .i64 w] (.tuple #[.int .i64 x57, .int .i64 e57]))
    (h58 : Ret 58 #[.int .i64 s, .int .i64 w] (.tuple #[.int .i64 x57, .int .i64 e57]))
    (h59 : Ret 59 #[.int .i64 s, .int .i64 w] (.tuple #[.int .i64 x59, .int .i64 e59]))
    (h60 : Ret 60 #[.int .i64 s, .int .i64 w] (.tuple #[.int .i64 x59, .int .i64 e59]))
    : Calls Try.prog 8 #[.int .i64 s, .int .i64 v, .int .i64 w] W fun e w' => e = .returned (.bool true) ∧ Below W.heap.size W w' := by
  have HB := Aside0.mk (Below.refl W.heap.size W)
  go_enter Try.func8, Try.ntmps8
  go_wp2_with fail
  refine (h9 _).mono ?_
  rintro e w2 ⟨rfl, hb⟩; have HB' := Aside0.mk (below_step HB.out hb); clear HB; have HB := HB'; clear HB' hb
  go_wp2_with fail
  refine (h29 _).mono ?_
  rintro e w2 ⟨rfl, hb⟩; have HB' := Aside0.mk (below_step HB.out hb); clear HB; have HB := HB'; clear HB' hb
  go_wp2_with fail
  refine (h48 _).mono ?_
  rintro e w2 ⟨rfl, hb⟩; have HB' := Aside0.mk (below_step HB.out hb); clear HB; have HB := HB'; clear HB' hb
  go_wp2_with fail
  refine (h27 _).mono ?_
  rintro e w2 ⟨rfl, hb⟩; have HB' := Aside0.mk (below_step HB.out hb); clear HB; have HB := HB'; clear HB' hb
  go_wp2_with fail
  refine (one_calls _ _ _).mono ?_
  rintro e w3 ⟨p, q, rfl, hp, hq, hpb, hqb, hb⟩; have HB' := Aside0.mk (below_step HB.out hb); clear HB; have HB := HB'; clear HB' hb
  go_wp2_with fail
  refine (h49 _).mono ?_
  rintro e w4 ⟨rfl, hb⟩
  have hp' := (hb.cell hpb).trans hp
  have hq' := (hb.cell hqb).trans hq
  have hpb' := Nat.lt_of_lt_of_le hpb hb.size
  have hqb' := Nat.lt_of_lt_of_le hqb hb.size
  clear hp hq hpb hqb
  have hp := hp'; have hq := hq'; have hpb := hpb'; have hqb := hqb'
  clear hp' hq' hpb' hqb'
  have HB' := Aside0.mk (below_step HB.out hb); clear HB; have HB := HB'; clear HB' hb
  go_wp2_with fail
  refine (one1_yes p q _ _ _ hp hq).mono ?_
  rintro e w5 ⟨rfl, rfl⟩
  clear hp hq hpb hqb
  go_wp2_with fail
  refine (h25 _).mono ?_
  rintro e w2 ⟨rfl, hb⟩; have HB' := Aside0.mk (below_step HB.out hb); clear HB; have HB := HB'; clear HB' hb
  go_wp2_with fail
  refine (one_calls _ _ _).mono ?_
  rintro e w3 ⟨p, q, rfl, hp, hq, hpb, hqb, hb⟩; have HB' := Aside0.mk (below_step HB.out hb); clear HB; have HB := HB'; clear HB' hb
  go_wp2_with fail
  refine (h50 _).mono ?_
  rintro e w4 ⟨rfl, hb⟩
  have hp' := (hb.cell hpb).trans hp
  have hq' := (hb.cell hqb).trans hq
  have hpb' := Nat.lt_of_lt_of_le hpb hb.size
  have hqb' := Nat.lt_of_lt_of_le hqb hb.size
  clear hp hq hpb hqb
  have hp := hp'; have hq := hq'; have hpb := hpb'; have hqb := hqb'
  clear hp' hq' hpb' hqb'
  have HB' := Aside0.mk (below_step HB.out hb); clear HB; have HB := HB'; clear HB' hb
  go_wp2_with fail
  refine (one1_yes p q _ _ _ hp hq).mono ?_
  rintro e w5 ⟨rfl, rfl⟩
  clear hp hq hpb hqb
  go_wp2_with fail
  refine (h28 _).mono ?_
  rintro e w2 ⟨rfl, hb⟩; have HB' := Aside0.mk (below_step HB.out hb); clear HB; have HB := HB'; clear HB' hb
  go_wp2_with fail
  refine (one_calls _ _ _).mono ?_
  rintro e w3 ⟨p, q, rfl, hp, hq, hpb, hqb, hb⟩; have HB' := Aside0.mk (below_step HB.out hb); clear HB; have HB := HB'; clear HB' hb
  go_wp2_with fail
  refine (h51 _).mono ?_
  rintro e w4 ⟨rfl, hb⟩
  have hp' := (hb.cell hpb).trans hp
  have hq' := (hb.cell hqb).trans hq
  have hpb' := Nat.lt_of_lt_of_le hpb hb.size
  have hqb' := Nat.lt_of_lt_of_le hqb hb.size
  clear hp hq hpb hqb
  have hp := hp'; have hq := hq'; have hpb := hpb'; have hqb := hqb'
  clear hp' hq' hpb' hqb'
  have HB' := Aside0.mk (below_step HB.out hb); clear HB; have HB := HB'; clear HB' hb
  go_wp2_with fail
  refine (one1_yes p q _ _ _ hp hq).mono ?_
  rintro e w5 ⟨rfl, rfl⟩
  clear hp hq hpb hqb
  go_wp2_with fail
  refine (h30 _).mono ?_
  rintro e w2 ⟨rfl, hb⟩; have HB' := Aside0.mk (below_step HB.out hb); clear HB; have HB := HB'; clear HB' hb
  go_wp2_with fail
  refine (one_calls _ _ _).mono ?_
  rintro e w3 ⟨p, q, rfl, hp, hq, hpb, hqb, hb⟩; have HB' := Aside0.mk (below_step HB.out hb); clear HB; have HB := HB'; clear HB' hb
  go_wp2_with fail
  refine (h52 _).mono ?_
  rintro e w4 ⟨rfl, hb⟩
  have hp' := (hb.cell hpb).trans hp
  have hq' := (hb.cell hqb).trans hq
  have hpb' := Nat.lt_of_lt_of_le hpb hb.size
  have hqb' := Nat.lt_of_lt_of_le hqb hb.size
  clear hp hq hpb hqb
  have hp := hp'; have hq := hq'; have hpb := hpb'; have hqb := hqb'
  clear hp' hq' hpb' hqb'
  have HB' := Aside0.mk (below_step HB.out hb); clear HB; have HB := HB'; clear HB' hb
  go_wp2_with fail
  refine (one1_yes p q _ _ _ hp hq).mono ?_
  rintro e w5 ⟨rfl, rfl⟩
  clear hp hq hpb hqb
  go_wp2_with fail
  refine (h53 _).mono ?_
  rintro e w2 ⟨rfl, hb⟩; have HB' := Aside0.mk (below_step HB.out hb); clear HB; have HB := HB'; clear HB' hb
  go_wp2_with fail
  refine (one_calls _ _ _).mono ?_
  rintro e w3 ⟨p, q, rfl, hp, hq, hpb, hqb, hb⟩; have HB' := Aside0.mk (below_step HB.out hb); clear HB; have HB := HB'; clear HB' hb
  go_wp2_with fail
  refine (h54 _).mono ?_
  rintro e w4 ⟨rfl, hb⟩
  have hp' := (hb.cell hpb).trans hp
  have hq' := (hb.cell hqb).trans hq
  have hpb' := Nat.lt_of_lt_of_le hpb hb.size
  have hqb' := Nat.lt_of_lt_of_le hqb hb.size
  clear hp hq hpb hqb
  have hp := hp'; have hq := hq'; have hpb := hpb'; have hqb := hqb'
  clear hp' hq' hpb' hqb'
  have HB' := Aside0.mk (below_step HB.out hb); clear HB; have HB := HB'; clear HB' hb
  go_wp2_with fail
  refine (one1_yes p q _ _ _ hp hq).mono ?_
  rintro e w5 ⟨rfl, rfl⟩
  clear hp hq hpb hqb
  go_wp2_with fail
  refine (h55 _).mono ?_
  rintro e w2 ⟨rfl, hb⟩; have HB' := Aside0.mk (below_step HB.out hb); clear HB; have HB := HB'; clear HB' hb
  go_wp2_with fail
  refine (one_calls _ _ _).mono ?_
  rintro e w3 ⟨p, q, rfl, hp, hq, hpb, hqb, hb⟩; have HB' := Aside0.mk (below_step HB.out hb); clear HB; have HB := HB'; clear HB' hb
  go_wp2_with fail
  refine (h56 _).mono ?_
  rintro e w4 ⟨rfl, hb⟩
  have hp' := (hb.cell hpb).trans hp
  have hq' := (hb.cell hqb).trans hq
  have hpb' := Nat.lt_of_lt_of_le hpb hb.size
  have hqb' := Nat.lt_of_lt_of_le hqb hb.size
  clear hp hq hpb hqb
  have hp := hp'; have hq := hq'; have hpb := hpb'; have hqb := hqb'
  clear hp' hq' hpb' hqb'
  have HB' := Aside0.mk (below_step HB.out hb); clear HB; have HB := HB'; clear HB' hb
  go_wp2_with fail
  refine (one1_yes p q _ _ _ hp hq).mono ?_
  rintro e w5 ⟨rfl, rfl⟩
  clear hp hq hpb hqb
  go_wp2_with fail
  refine (h57 _).mono ?_
  rintro e w2 ⟨rfl, hb⟩; have HB' := Aside0.mk (below_step HB.out hb); clear HB; have HB := HB'; clear HB' hb
  go_wp2_with fail
  refine (one_calls _ _ _).mono ?_
  rintro e w3 ⟨p, q, rfl, hp, hq, hpb, hqb, hb⟩; have HB' := Aside0.mk (below_step HB.out hb); clear HB; have HB := HB'; clear HB' hb
  go_wp2_with fail
  refine (h58 _).mono ?_
  rintro e w4 ⟨rfl, hb⟩
  have hp' := (hb.cell hpb).trans hp
  have hq' := (hb.cell hqb).trans hq
  have hpb' := Nat.lt_of_lt_of_le hpb hb.size
  have hqb' := Nat.lt_of_lt_of_le hqb hb.size
  clear hp hq hpb hqb
  have hp := hp'; have hq := hq'; have hpb := hpb'; have hqb := hqb'
  clear hp' hq' hpb' hqb'
  have HB' := Aside0.mk (below_step HB.out hb); clear HB; have HB := HB'; clear HB' hb
  go_wp2_with fail
  refine (one1_yes p q _ _ _ hp hq).mono ?_
  rintro e w5 ⟨rfl, rfl⟩
  clear hp hq hpb hqb
  go_wp2_with fail
  refine (h59 _).mono ?_
  rintro e w2 ⟨rfl, hb⟩; have HB' := Aside0.mk (below_step HB.out hb); clear HB; have HB := HB'; clear HB' hb
  go_wp2_with fail
  refine (one_calls _ _ _).mono ?_
  rintro e w3 ⟨p, q, rfl, hp, hq, hpb, hqb, hb⟩; have HB' := Aside0.mk (below_step HB.out hb); clear HB; have HB := HB'; clear HB' hb
  go_wp2_with fail
  refine (h60 _).mono ?_
  rintro e w4 ⟨rfl, hb⟩
  have hp' := (hb.cell hpb).trans hp
  have hq' := (hb.cell hqb).trans hq
  have hpb' := Nat.lt_of_lt_of_le hpb hb.size
  have hqb' := Nat.lt_of_lt_of_le hqb hb.size
  clear hp hq hpb hqb
  have hp := hp'; have hq := hq'; have hpb := hpb'; have hqb := hqb'
  clear hp' hq' hpb' hqb'
  have HB' := Aside0.mk (below_step HB.out hb); clear HB; have HB := HB'; clear HB' hb
  go_wp2_with fail
  refine (one1_yes p q _ _ _ hp hq).mono ?_
  rintro e w5 ⟨rfl, rfl⟩
  clear hp hq hpb hqb
  go_wp2_with fail
  go_ret
  exact ⟨rfl, HB.out⟩

end Go.Proofs.Ytgifknjcdkhmmaa.WordsWalk
