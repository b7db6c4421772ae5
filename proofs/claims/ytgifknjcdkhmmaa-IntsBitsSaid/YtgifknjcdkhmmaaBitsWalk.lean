import Derived.Test.YtgifknjcdkhmmaaPIntsBitsx2
namespace Go.Proofs.Ytgifknjcdkhmmaa.BitsWalk
open Go.RowKit Go.Proofs.Ytgifknjcdkhmmaa.PIntsBits Go.Proofs.YtgifknjcdkhmmaaW.PrintWords Go.Proofs.YtgifknjcdkhmmaaW.PrintLast Go.Proofs.YtgifknjcdkhmmaaW.PrintMore
/-- the call of function f with these values returns v, and nothing that was there has changed -/
def Ret (f : Nat) (args : Array Value) (v : Value) : Prop := ∀ w, Calls Try.prog f args w fun e w' => e = .returned v ∧ Below w.heap.size w w'
theorem ret_b {f : Nat} {args : Array Value} {v : Value} (h : ∀ w, Calls Try.prog f args w fun e w' => e = .returned v ∧ Below w.heap.size w w') : Ret f args v := h
theorem ret_d {f : Nat} {args : Array Value} {v : Value} (h : ∀ w, Calls Try.prog f args w fun e w' => e = .returned v ∧ Drawn0 w w') : Ret f args v := fun w => (h w).mono fun _ _ ⟨he, hd⟩ => ⟨he, hd.below⟩
theorem ret_s {f : Nat} {args : Array Value} {v : Value} (h : ∀ w, Calls Try.prog f args w fun e w' => e = .returned v ∧ w = w') : Ret f args v := fun w => (h w).mono fun _ _ ⟨he, hd⟩ => ⟨he, hd ▸ Below.refl _ _⟩

def OneP (a e : Int) (w : World) (en : Ending) (w' : World) : Prop := ∃ p q : Addr, en = .returned (.func (Fn.func 63) #[] #[.pointer (some p), .pointer (some q)]) ∧ w'.cell? p = some (.int .i64 a) ∧ w'.cell? q = some (.int .i64 e) ∧ p.block < w'.heap.size ∧ q.block < w'.heap.size ∧ Below w.heap.size w w'
theorem one_calls (a e : Int) (w : World) : Calls Try.prog 13 #[.int .i64 a, .int .i64 e] w (OneP a e w) := by
  go_enter Try.func13, Try.ntmps13
  go_wp2
  go_ret
  refine ⟨⟨w.heap.size, 0, none⟩, ⟨w.heap.size + 1, 0, none⟩, rfl, ?_, ?_, ?_, ?_, ((Below.refl _ _).alloc (Nat.le_refl _) _).alloc (by simp) _⟩
  · go_simp
  · go_simp
  · go_simp
  · go_simp
theorem one1_yes (p q : Addr) (a e : Int) (w : World) (hp : w.cell? p = some (.int .i64 a)) (hq : w.cell? q = some (.int .i64 e)) : Calls Try.prog 63 #[.int .i64 a, .int .i64 e, .pointer (some p), .pointer (some q)] w fun en w' => en = .returned (.bool true) ∧ w = w' := by
  go_enter Try.func63, Try.ntmps63
  go_wp2
  go_ret
  exact ⟨rfl, rfl⟩

set_option maxHeartbeats 4000000 in
set_option maxRecDepth 100000 in
theorem bits_no1 (s v w x e : Int) (W0 : World) (h9 : Ret 9 #[] (.bool true)) (h24 : Ret 24 #[.int .i64 s, .int .i64 v] (.bool false)) (h25 : Ret 25 #[.int .i64 s, .int .i64 v, .int .i64 w] (.tuple #[.int .i64 x, .int .i64 e])) (he : (e != 0) = true)
    : Calls Try.prog 6 #[.int .i64 s, .int .i64 v, .int .i64 w] W0 fun e w' => e = .returned (.bool true) ∧ Below W0.heap.size W0 w' := by
  have HB := Aside0.mk (Below.refl W0.heap.size W0)
  go_enter Try.func6, Try.ntmps6
  go_wp2_with fail
  refine (h9 _).mono ?_
  rintro e w2 ⟨rfl, hb⟩; have HB' := Aside0.mk (below_step HB.out hb); clear HB; have HB := HB'; clear HB' hb
  go_wp2_with fail
  refine (h24 _).mono ?_
  rintro e w2 ⟨rfl, hb⟩; have HB' := Aside0.mk (below_step HB.out hb); clear HB; have HB := HB'; clear HB' hb
  go_wp2_with fail
  refine (h25 _).mono ?_
  rintro e w2 ⟨rfl, hb⟩; have HB' := Aside0.mk (below_step HB.out hb); clear HB; have HB := HB'; clear HB' hb
  go_wp2_with fail
  go_ret
  exact ⟨rfl, HB.out⟩
set_option maxHeartbeats 4000000 in
set_option maxRecDepth 100000 in
theorem bits_no2 (s v w x e : Int) (W0 : World) (h9 : Ret 9 #[] (.bool true)) (h24 : Ret 24 #[.int .i64 s, .int .i64 v] (.bool true)) (h24w : Ret 24 #[.int .i64 s, .int .i64 w] (.bool false)) (h25 : Ret 25 #[.int .i64 s, .int .i64 v, .int .i64 w] (.tuple #[.int .i64 x, .int .i64 e])) (he : (e != 0) = true)
    : Calls Try.prog 6 #[.int .i64 s, .int .i64 v, .int .i64 w] W0 fun e w' => e = .returned (.bool true) ∧ Below W0.heap.size W0 w' := by
  have HB := Aside0.mk (Below.refl W0.heap.size W0)
  go_enter Try.func6, Try.ntmps6
  go_wp2_with fail
  refine (h9 _).mono ?_
  rintro e w2 ⟨rfl, hb⟩; have HB' := Aside0.mk (below_step HB.out hb); clear HB; have HB := HB'; clear HB' hb
  go_wp2_with fail
  refine (h24 _).mono ?_
  rintro e w2 ⟨rfl, hb⟩; have HB' := Aside0.mk (below_step HB.out hb); clear HB; have HB := HB'; clear HB' hb
  go_wp2_with fail
  refine (h24w _).mono ?_
  rintro e w2 ⟨rfl, hb⟩; have HB' := Aside0.mk (below_step HB.out hb); clear HB; have HB := HB'; clear HB' hb
  go_wp2_with fail
  refine (h25 _).mono ?_
  rintro e w2 ⟨rfl, hb⟩; have HB' := Aside0.mk (below_step HB.out hb); clear HB; have HB := HB'; clear HB' hb
  go_wp2_with fail
  go_ret
  exact ⟨rfl, HB.out⟩
/-- what the loop's round meets -/
def Round (s v w an wi i : Int) : Prop := ∃ (a b : Bool) (there back kept again e1 e2 e3 e4 : Int), Ret 29 #[.int .i64 s, .int .i64 i, .int .i64 v] (.tuple #[.bool a, .int .i64 0]) ∧ Ret 29 #[.int .i64 s, .int .i64 i, .int .i64 w] (.tuple #[.bool b, .int .i64 0]) ∧ Ret 29 #[.int .i64 s, .int .i64 i, .int .i64 an] (.tuple #[.bool (a && b), .int .i64 0]) ∧ Ret 30 #[.int .i64 s, .int .i64 v, .int .i64 i] (.tuple #[.int .i64 there, .int .i64 e1]) ∧ Ret 30 #[.int .i64 s, .int .i64 there, .int .i64 (-i)] (.tuple #[.int .i64 back, .int .i64 e2]) ∧ Ret 30 #[.int .i64 s, .int .i64 v, .int .i64 (i - wi)] (.tuple #[.int .i64 kept, .int .i64 e3]) ∧ Ret 30 #[.int .i64 s, .int .i64 kept, .int .i64 (wi - i)] (.tuple #[.int .i64 again, .int .i64 e4]) ∧ Ret 28 #[.int .i64 s, .int .i64 back, .int .i64 again] (.tuple #[.int .i64 v, .int .i64 0])
set_option maxHeartbeats 4000000 in
set_option maxRecDepth 100000 in
theorem bits_yes (s v w an ea wi ew n en m em o eo : Int) (W0 : World) (hw1 : 1 ≤ wi) (hw2 : wi ≤ 60) (h9 : Ret 9 #[] (.bool true))
    (h24 : Ret 24 #[.int .i64 s, .int .i64 v] (.bool true))
    (h24w : Ret 24 #[.int .i64 s, .int .i64 w] (.bool true))
    (h26 : Ret 26 #[.int .i64 s] (.tuple #[.int .i64 wi, .int .i64 ew]))
    (h27 : Ret 27 #[.int .i64 s, .int .i64 v] (.tuple #[.int .i64 n, .int .i64 en]))
    (h27w : Ret 27 #[.int .i64 s, .int .i64 w] (.tuple #[.int .i64 m, .int .i64 em]))
    (h25 : Ret 25 #[.int .i64 s, .int .i64 v, .int .i64 w] (.tuple #[.int .i64 an, .int .i64 ea]))
    (h28 : Ret 28 #[.int .i64 s, .int .i64 n, .int .i64 m] (.tuple #[.int .i64 o, .int .i64 eo]))
    (h27n : Ret 27 #[.int .i64 s, .int .i64 n] (.tuple #[.int .i64 v, .int .i64 0]))
    (h27a : Ret 27 #[.int .i64 s, .int .i64 an] (.tuple #[.int .i64 o, .int .i64 0]))
    (hR : ∀ i : Nat, 1 ≤ i → (i : Int) ≤ wi → Round s v w an wi i)
    : Calls Try.prog 6 #[.int .i64 s, .int .i64 v, .int .i64 w] W0 fun e w' => e = .returned (.bool true) ∧ Below W0.heap.size W0 w' := by
  have HB := Aside0.mk (Below.refl W0.heap.size W0)
  go_enter Try.func6, Try.ntmps6
  go_wp2_with fail
  refine (h9 _).mono ?_
  rintro e w2 ⟨rfl, hb⟩; have HB' := Aside0.mk (below_step HB.out hb); clear HB; have HB := HB'; clear HB' hb
  go_wp2_with fail
  refine (h24 _).mono ?_
  rintro e w2 ⟨rfl, hb⟩; have HB' := Aside0.mk (below_step HB.out hb); clear HB; have HB := HB'; clear HB' hb
  go_wp2_with fail
  refine (h24w _).mono ?_
  rintro e w2 ⟨rfl, hb⟩; have HB' := Aside0.mk (below_step HB.out hb); clear HB; have HB := HB'; clear HB' hb
  go_wp2_with fail
  refine (h26 _).mono ?_
  rintro e w2 ⟨rfl, hb⟩; have HB' := Aside0.mk (below_step HB.out hb); clear HB; have HB := HB'; clear HB' hb
  go_wp2_with fail
  refine (h27 _).mono ?_
  rintro e w2 ⟨rfl, hb⟩; have HB' := Aside0.mk (below_step HB.out hb); clear HB; have HB := HB'; clear HB' hb
  go_wp2_with fail
  refine (h27w _).mono ?_
  rintro e w2 ⟨rfl, hb⟩; have HB' := Aside0.mk (below_step HB.out hb); clear HB; have HB := HB'; clear HB' hb
  go_wp2_with fail
  refine (h25 _).mono ?_
  rintro e w2 ⟨rfl, hb⟩; have HB' := Aside0.mk (below_step HB.out hb); clear HB; have HB := HB'; clear HB' hb
  go_wp2_with fail
  refine (h28 _).mono ?_
  rintro e w2 ⟨rfl, hb⟩; have HB' := Aside0.mk (below_step HB.out hb); clear HB; have HB := HB'; clear HB' hb
  go_wp2_with fail
  refine (h27n _).mono ?_
  rintro e w2 ⟨rfl, hb⟩; have HB' := Aside0.mk (below_step HB.out hb); clear HB; have HB := HB'; clear HB' hb
  go_wp2_with fail
  refine (one_calls _ _ _).mono ?_
  rintro e w3 ⟨p, q, rfl, hp, hq, hpb, hqb, hb⟩; have HB' := Aside0.mk (below_step HB.out hb); clear HB; have HB := HB'; clear HB' hb
  go_wp2_with fail
  refine (one1_yes _ _ _ _ _ hp hq).mono ?_
  rintro e w5 ⟨rfl, rfl⟩
  clear hp hq hpb hqb
  go_wp2_with fail
  refine (h27a _).mono ?_
  rintro e w2 ⟨rfl, hb⟩; have HB' := Aside0.mk (below_step HB.out hb); clear HB; have HB := HB'; clear HB' hb
  go_wp2_with fail
  refine (one_calls _ _ _).mono ?_
  rintro e w3 ⟨p, q, rfl, hp, hq, hpb, hqb, hb⟩; have HB' := Aside0.mk (below_step HB.out hb); clear HB; have HB := HB'; clear HB' hb
  go_wp2_with fail
  refine (one1_yes _ _ _ _ _ hp hq).mono ?_
  rintro e w5 ⟨rfl, rfl⟩
  clear hp hq hpb hqb
  go_wp2_with fail
  go_loopw [19] (fun i wr => ∃ k : Nat, 1 ≤ k ∧ (k : Int) ≤ wi + 1 ∧ i = .int .i64 k ∧ Aside0 (Below W0.heap.size W0 wr)) (fun i _ => 61 - (intOf i).toNat)
  case atStart => exact ⟨1, by omega, by omega, rfl, HB⟩
  case round =>
    clear HB
    obtain ⟨k, hk1, hk2, rfl, HB⟩ := hrel
    by_cases hlt : (k : Int) ≤ wi
    · obtain ⟨a, b, there, back, kept, again, e1, e2, e3, e4, ra, rb, rc, rt, rk, rq, rg, ro⟩ := hR k hk1 hlt
      clear hR
      have hk0 : (0 : Int) ≤ (k : Int) := by omega
      cases a <;> cases b
      all_goals
        go_wp2_with fail
        refine (ra _).mono ?_
        rintro e w2 ⟨rfl, hb⟩; have HB' := Aside0.mk (below_step HB.out hb); clear HB; have HB := HB'; clear HB' hb
        go_wp2_with fail
        refine (rb _).mono ?_
        rintro e w2 ⟨rfl, hb⟩; have HB' := Aside0.mk (below_step HB.out hb); clear HB; have HB := HB'; clear HB' hb
        go_wp2_with fail
        refine (rc _).mono ?_
        rintro e w2 ⟨rfl, hb⟩; have HB' := Aside0.mk (below_step HB.out hb); clear HB; have HB := HB'; clear HB' hb
        go_wp2_with fail
        refine (rt _).mono ?_
        rintro e w2 ⟨rfl, hb⟩; have HB' := Aside0.mk (below_step HB.out hb); clear HB; have HB := HB'; clear HB' hb
        go_wp2_with fail
        refine (rk _).mono ?_
        rintro e w2 ⟨rfl, hb⟩; have HB' := Aside0.mk (below_step HB.out hb); clear HB; have HB := HB'; clear HB' hb
        go_wp2_with fail
        refine (rq _).mono ?_
        rintro e w2 ⟨rfl, hb⟩; have HB' := Aside0.mk (below_step HB.out hb); clear HB; have HB := HB'; clear HB' hb
        go_wp2_with fail
        refine (rg _).mono ?_
        rintro e w2 ⟨rfl, hb⟩; have HB' := Aside0.mk (below_step HB.out hb); clear HB; have HB := HB'; clear HB' hb
        go_wp2_with fail
        refine (ro _).mono ?_
        rintro e w2 ⟨rfl, hb⟩; have HB' := Aside0.mk (below_step HB.out hb); clear HB; have HB := HB'; clear HB' hb
        go_wp2_with fail
        refine (one_calls _ _ _).mono ?_
        rintro e w3 ⟨p, q, rfl, hp, hq, hpb, hqb, hb⟩; have HB' := Aside0.mk (below_step HB.out hb); clear HB; have HB := HB'; clear HB' hb
        go_wp2_with fail
        refine (one1_yes _ _ _ _ _ hp hq).mono ?_
        rintro e w5 ⟨rfl, rfl⟩
        clear hp hq hpb hqb
        go_wp2_with fail
        go_roundw
        case rel => exact ⟨k + 1, by omega, by omega, by go_num, HB⟩
        case measure => simp [intOf]; omega
    · clear hR
      go_wp2_with fail
      go_ret
      exact ⟨rfl, HB.out⟩

end Go.Proofs.Ytgifknjcdkhmmaa.BitsWalk
