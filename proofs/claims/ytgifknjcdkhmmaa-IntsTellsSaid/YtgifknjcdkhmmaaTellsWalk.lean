import Derived.Test.YtgifknjcdkhmmaaSingle
import Derived.Test.YtgifknjcdkhmmaaPIntsTellsx3
namespace Go.Proofs.Ytgifknjcdkhmmaa.TellsWalk
open Go.RowKit Go.Proofs.Ytgifknjcdkhmmaa.PIntsTells Go.Proofs.YtgifknjcdkhmmaaW.PrintWords Go.Proofs.YtgifknjcdkhmmaaW.PrintLast Go.Proofs.YtgifknjcdkhmmaaW.PrintMore
open Go.Proofs.Ytgifknjcdkhmmaa.Single

def OneP (a e : Int) (w : World) (en : Ending) (w' : World) : Prop := ∃ p q : Addr, en = .returned (.func (Fn.func 63) #[] #[.pointer (some p), .pointer (some q)]) ∧ w'.cell? p = some (.int .i64 a) ∧ w'.cell? q = some (.int .i64 e) ∧ p.block < w'.heap.size ∧ q.block < w'.heap.size ∧ Below w.heap.size w w'
theorem one_calls (a e : Int) (w : World) : Calls Try.prog 13 #[.int .i64 a, .int .i64 e] w (OneP a e w) := by
  go_enter Try.func13, Try.ntmps13
  go_wp2
  go_ret
  refine ⟨⟨w.heap.size, 0, none⟩, ⟨w.heap.size + 1, 0, none⟩, rfl, ?_, ?_, ?_, ?_, ((Below.refl _ _).alloc (Nat.le_refl _) _).alloc (by simp) _⟩
  · go_simp
  · go_simp
  · go_simp
  · go_simp
theorem one1_yes (p q : Addr) (a e : Int) (w : World) (hp : w.cell? p = some (.int .i64 a)) (hq : w.cell? q = some (.int .i64 e)) : Calls Try.prog 63 #[.int .i64 a, .int .i64 e, .pointer (some p), .pointer (some q)] w fun en w' => en = .returned (.bool true) ∧ w = w' := by
  go_enter Try.func63, Try.ntmps63
  go_wp2
  go_ret
  exact ⟨rfl, rfl⟩

set_option maxHeartbeats 8000000 in
set_option maxRecDepth 100000 in
theorem tells_walk (s a : Int) (b1 b2 b3 : Bool) (e3 x31 e31 x26 e26 x38 e38 x40 e40 x42 e42 x44 e44 x46 e46 : Int) (w : World) (h9 : Ret 9 #[] (.bool true))
    (h31 : Ret 31 #[.int .i64 s] (.tuple #[.int .i64 x31, .int .i64 e31]))
    (h32 : Ret 32 #[.int .i64 s] (.tuple #[.int .i64 x31, .int .i64 e31]))
    (h26 : Ret 26 #[.int .i64 s] (.tuple #[.int .i64 x26, .int .i64 e26]))
    (h33 : Ret 33 #[.int .i64 s] (.tuple #[.int .i64 x26, .int .i64 e26]))
    (h12 : Ret 12 #[.int .i64 s, .int .i64 a] (.bool b1))
    (h34 : Ret 34 #[.int .i64 s, .int .i64 a] (.bool b1))
    (h24 : Ret 24 #[.int .i64 s, .int .i64 a] (.bool b2))
    (h35 : Ret 35 #[.int .i64 s, .int .i64 a] (.bool b2))
    (h36 : Ret 36 #[.int .i64 s, .int .i64 a] (.tuple #[.bool b3, .int .i64 e3]))
    (h37 : Ret 37 #[.int .i64 s, .int .i64 a] (.tuple #[.bool b3, .int .i64 e3]))
    (h38 : Ret 38 #[.int .i64 s, .int .i64 a] (.tuple #[.int .i64 x38, .int .i64 e38]))
    (h39 : Ret 39 #[.int .i64 s, .int .i64 a] (.tuple #[.int .i64 x38, .int .i64 e38]))
    (h40 : Ret 40 #[.int .i64 s, .int .i64 a] (.tuple #[.int .i64 x40, .int .i64 e40]))
    (h41 : Ret 41 #[.int .i64 s, .int .i64 a] (.tuple #[.int .i64 x40, .int .i64 e40]))
    (h42 : Ret 42 #[.int .i64 s, .int .i64 a] (.tuple #[.int .i64 x42, .int .i64 e42]))
    (h43 : Ret 43 #[.int .i64 s, .int .i64 a] (.tuple #[.int .i64 x42, .int .i64 e42]))
    (h44 : Ret 44 #[.int .i64 s, .int .i64 a] (.tuple #[.int .i64 x44, .int .i64 e44]))
    (h45 : Ret 45 #[.int .i64 s, .int .i64 a] (.tuple #[.int .i64 x44, .int .i64 e44]))
    (h46 : Ret 46 #[.int .i64 s, .int .i64 a] (.tuple #[.int .i64 x46, .int .i64 e46]))
    (h47 : Ret 47 #[.int .i64 s, .int .i64 a] (.tuple #[.int .i64 x46, .int .i64 e46]))
    : Calls Try.prog 7 #[.int .i64 s, .int .i64 a] w fun e w' => e = .returned (.bool true) ∧ Below w.heap.size w w' := by
  have HB := Aside0.mk (Below.refl w.heap.size w)
  go_enter Try.func7, Try.ntmps7
  go_wp2_with fail
  refine (h9 _).mono ?_
  rintro e w2 ⟨rfl, hb⟩; have HB' := Aside0.mk (below_step HB.out hb); clear HB; have HB := HB'; clear HB' hb
  go_wp2_with fail
  refine (h31 _).mono ?_
  rintro e w2 ⟨rfl, hb⟩; have HB' := Aside0.mk (below_step HB.out hb); clear HB; have HB := HB'; clear HB' hb
  go_wp2_with fail
  refine (h32 _).mono ?_
  rintro e w2 ⟨rfl, hb⟩; have HB' := Aside0.mk (below_step HB.out hb); clear HB; have HB := HB'; clear HB' hb
  go_wp2_with fail
  refine (h26 _).mono ?_
  rintro e w2 ⟨rfl, hb⟩; have HB' := Aside0.mk (below_step HB.out hb); clear HB; have HB := HB'; clear HB' hb
  go_wp2_with fail
  refine (h33 _).mono ?_
  rintro e w2 ⟨rfl, hb⟩; have HB' := Aside0.mk (below_step HB.out hb); clear HB; have HB := HB'; clear HB' hb
  go_wp2_with fail
  refine (h12 _).mono ?_
  rintro e w2 ⟨rfl, hb⟩; have HB' := Aside0.mk (below_step HB.out hb); clear HB; have HB := HB'; clear HB' hb
  go_wp2_with fail
  refine (h34 _).mono ?_
  rintro e w2 ⟨rfl, hb⟩; have HB' := Aside0.mk (below_step HB.out hb); clear HB; have HB := HB'; clear HB' hb
  go_wp2_with fail
  refine (h24 _).mono ?_
  rintro e w2 ⟨rfl, hb⟩; have HB' := Aside0.mk (below_step HB.out hb); clear HB; have HB := HB'; clear HB' hb
  go_wp2_with fail
  refine (h35 _).mono ?_
  rintro e w2 ⟨rfl, hb⟩; have HB' := Aside0.mk (below_step HB.out hb); clear HB; have HB := HB'; clear HB' hb
  go_wp2_with fail
  refine (h36 _).mono ?_
  rintro e w2 ⟨rfl, hb⟩; have HB' := Aside0.mk (below_step HB.out hb); clear HB; have HB := HB'; clear HB' hb
  go_wp2_with fail
  refine (h37 _).mono ?_
  rintro e w2 ⟨rfl, hb⟩; have HB' := Aside0.mk (below_step HB.out hb); clear HB; have HB := HB'; clear HB' hb
  go_wp2_with fail
  refine (h38 _).mono ?_
  rintro e w2 ⟨rfl, hb⟩; have HB' := Aside0.mk (below_step HB.out hb); clear HB; have HB := HB'; clear HB' hb
  go_wp2_with fail
  refine (one_calls _ _ _).mono ?_
  rintro e w3 ⟨p, q, rfl, hp, hq, hpb, hqb, hb⟩; have HB' := Aside0.mk (below_step HB.out hb); clear HB; have HB := HB'; clear HB' hb
  go_wp2_with fail
  refine (h39 _).mono ?_
  rintro e w4 ⟨rfl, hb⟩
  have hp' := (hb.cell hpb).trans hp
  have hq' := (hb.cell hqb).trans hq
  have hpb' := Nat.lt_of_lt_of_le hpb hb.size
  have hqb' := Nat.lt_of_lt_of_le hqb hb.size
  clear hp hq hpb hqb
  have hp := hp'; have hq := hq'; have hpb := hpb'; have hqb := hqb'
  clear hp' hq' hpb' hqb'
  have HB' := Aside0.mk (below_step HB.out hb); clear HB; have HB := HB'; clear HB' hb
  go_wp2_with fail
  refine (one1_yes p q _ _ _ hp hq).mono ?_
  rintro e w5 ⟨rfl, rfl⟩
  clear hp hq hpb hqb
  go_wp2_with fail
  refine (h40 _).mono ?_
  rintro e w2 ⟨rfl, hb⟩; have HB' := Aside0.mk (below_step HB.out hb); clear HB; have HB := HB'; clear HB' hb
  go_wp2_with fail
  refine (one_calls _ _ _).mono ?_
  rintro e w3 ⟨p, q, rfl, hp, hq, hpb, hqb, hb⟩; have HB' := Aside0.mk (below_step HB.out hb); clear HB; have HB := HB'; clear HB' hb
  go_wp2_with fail
  refine (h41 _).mono ?_
  rintro e w4 ⟨rfl, hb⟩
  have hp' := (hb.cell hpb).trans hp
  have hq' := (hb.cell hqb).trans hq
  have hpb' := Nat.lt_of_lt_of_le hpb hb.size
  have hqb' := Nat.lt_of_lt_of_le hqb hb.size
  clear hp hq hpb hqb
  have hp := hp'; have hq := hq'; have hpb := hpb'; have hqb := hqb'
  clear hp' hq' hpb' hqb'
  have HB' := Aside0.mk (below_step HB.out hb); clear HB; have HB := HB'; clear HB' hb
  go_wp2_with fail
  refine (one1_yes p q _ _ _ hp hq).mono ?_
  rintro e w5 ⟨rfl, rfl⟩
  clear hp hq hpb hqb
  go_wp2_with fail
  refine (h42 _).mono ?_
  rintro e w2 ⟨rfl, hb⟩; have HB' := Aside0.mk (below_step HB.out hb); clear HB; have HB := HB'; clear HB' hb
  go_wp2_with fail
  refine (one_calls _ _ _).mono ?_
  rintro e w3 ⟨p, q, rfl, hp, hq, hpb, hqb, hb⟩; have HB' := Aside0.mk (below_step HB.out hb); clear HB; have HB := HB'; clear HB' hb
  go_wp2_with fail
  refine (h43 _).mono ?_
  rintro e w4 ⟨rfl, hb⟩
  have hp' := (hb.cell hpb).trans hp
  have hq' := (hb.cell hqb).trans hq
  have hpb' := Nat.lt_of_lt_of_le hpb hb.size
  have hqb' := Nat.lt_of_lt_of_le hqb hb.size
  clear hp hq hpb hqb
  have hp := hp'; have hq := hq'; have hpb := hpb'; have hqb := hqb'
  clear hp' hq' hpb' hqb'
  have HB' := Aside0.mk (below_step HB.out hb); clear HB; have HB := HB'; clear HB' hb
  go_wp2_with fail
  refine (one1_yes p q _ _ _ hp hq).mono ?_
  rintro e w5 ⟨rfl, rfl⟩
  clear hp hq hpb hqb
  go_wp2_with fail
  refine (h44 _).mono ?_
  rintro e w2 ⟨rfl, hb⟩; have HB' := Aside0.mk (below_step HB.out hb); clear HB; have HB := HB'; clear HB' hb
  go_wp2_with fail
  refine (one_calls _ _ _).mono ?_
  rintro e w3 ⟨p, q, rfl, hp, hq, hpb, hqb, hb⟩; have HB' := Aside0.mk (below_step HB.out hb); clear HB; have HB := HB'; clear HB' hb
  go_wp2_with fail
  refine (h45 _).mono ?_
  rintro e w4 ⟨rfl, hb⟩
  have hp' := (hb.cell hpb).trans hp
  have hq' := (hb.cell hqb).trans hq
  have hpb' := Nat.lt_of_lt_of_le hpb hb.size
  have hqb' := Nat.lt_of_lt_of_le hqb hb.size
  clear hp hq hpb hqb
  have hp := hp'; have hq := hq'; have hpb := hpb'; have hqb := hqb'
  clear hp' hq' hpb' hqb'
  have HB' := Aside0.mk (below_step HB.out hb); clear HB; have HB := HB'; clear HB' hb
  go_wp2_with fail
  refine (one1_yes p q _ _ _ hp hq).mono ?_
  rintro e w5 ⟨rfl, rfl⟩
  clear hp hq hpb hqb
  go_wp2_with fail
  refine (h46 _).mono ?_
  rintro e w2 ⟨rfl, hb⟩; have HB' := Aside0.mk (below_step HB.out hb); clear HB; have HB := HB'; clear HB' hb
  go_wp2_with fail
  refine (one_calls _ _ _).mono ?_
  rintro e w3 ⟨p, q, rfl, hp, hq, hpb, hqb, hb⟩; have HB' := Aside0.mk (below_step HB.out hb); clear HB; have HB := HB'; clear HB' hb
  go_wp2_with fail
  refine (h47 _).mono ?_
  rintro e w4 ⟨rfl, hb⟩
  have hp' := (hb.cell hpb).trans hp
  have hq' := (hb.cell hqb).trans hq
  have hpb' := Nat.lt_of_lt_of_le hpb hb.size
  have hqb' := Nat.lt_of_lt_of_le hqb hb.size
  clear hp hq hpb hqb
  have hp := hp'; have hq := hq'; have hpb := hpb'; have hqb := hqb'
  clear hp' hq' hpb' hqb'
  have HB' := Aside0.mk (below_step HB.out hb); clear HB; have HB := HB'; clear HB' hb
  go_wp2_with fail
  refine (one1_yes p q _ _ _ hp hq).mono ?_
  rintro e w5 ⟨rfl, rfl⟩
  clear hp hq hpb hqb
  go_wp2_with fail
  go_ret
  exact ⟨rfl, HB.out⟩

end Go.Proofs.Ytgifknjcdkhmmaa.TellsWalk
