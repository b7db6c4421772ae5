import Derived.StillTailTactics
import Derived.ArgAppend
import Derived.Below
import Derived.BigQuiet
import Derived.Deep.AppendLies
import Derived.Deep.CutBlock
import Derived.Deep.DeepCutAuto
import Derived.Deep.Draws
import Derived.Deep.LoopGhost
import Derived.Deep.OwnRows
import Derived.Deep.QuietTactic
import Derived.Deep.RegionHeld3
import Derived.KernelRfl
import Derived.Laws.Bits64b
import Derived.Laws.BitsLemmas
import Derived.Laws.BytesArg
import Derived.Laws.Externs
import Derived.Laws.IdiomCopy
import Derived.Laws.MakeOwn
import Derived.Laws.MathBits
import Derived.Laws.OwnMore
import Derived.Laws.Rows
import Derived.Laws.Slices
import Derived.Lib.AppendStr
import Derived.Lib.ConvBytes
import Derived.Maps.AppendAt
import Derived.OrdersHeld
import Derived.OwnWalk
import Derived.RowKit
import Derived.RowKit3
import Derived.Tactics
import Derived.Test.YtonmdifmlpfcpaaDoorProg
import Derived.WalkKit
import Derived.WideLaws
import Derived.Lib.Walk
import Derived.Lib.SliceRun
import Derived.Lib.JoinLaws
import Derived.Lib.AppendZeros
import Derived.Lib.Overlaps
import Derived.Lib.AppendZerosOnto
import Derived.Shelf.RegionOpenPlain
import Derived.Shelf.Spec.SlicesInsert
import Derived.Deep.RegionLaw
import Derived.Test.YtonmdifmlpfcpaaDoorWWords
import Derived.Test.YtonmdifmlpfcpaaDoorWLast
import Derived.Test.YtonmdifmlpfcpaaDoorWTab
import Derived.Test.YtonmdifmlpfcpaaDoorWFour
import Derived.Test.YtonmdifmlpfcpaaDoorWQPut
import Derived.Test.YtonmdifmlpfcpaaDoorWApart
import Derived.Test.YtonmdifmlpfcpaaDoorWArr
import Derived.Test.YtonmdifmlpfcpaaDoorWZeros
import Derived.Test.YtonmdifmlpfcpaaDoorWFoot
import Derived.Test.YtonmdifmlpfcpaaDoorWKept
import Derived.Test.YtonmdifmlpfcpaaDoorWShare
import Derived.Test.YtonmdifmlpfcpaaDoorWN
import Derived.Test.YtonmdifmlpfcpaaDoorWFootNe
import Derived.Test.YtonmdifmlpfcpaaDoorWAt
import Derived.Test.YtonmdifmlpfcpaaDoorWEqStruct
import Derived.Test.YtonmdifmlpfcpaaDoorWRepsOne
import Derived.Test.YtonmdifmlpfcpaaDoorWInv
import Derived.Test.YtonmdifmlpfcpaaDoorWInvWords
import Derived.Test.YtonmdifmlpfcpaaDoorWGuard
import Derived.Test.YtonmdifmlpfcpaaDoorWNEv
import Derived.Test.YtonmdifmlpfcpaaDoorWMore
import Derived.Test.YtonmdifmlpfcpaaDoorBdo15
import Derived.Test.YtonmdifmlpfcpaaDoorBawake
namespace Go.Proofs.YtonmdifmlpfcpaaDoor.PB
open Go.RowKit Go.Proofs.YtonmdifmlpfcpaaDoorW.PrintWords Go.Proofs.YtonmdifmlpfcpaaDoorW.PrintLast Go.Proofs.YtonmdifmlpfcpaaDoorW.PrintMore
set_option linter.unusedVariables false
set_option linter.unusedSimpArgs false
set_option maxRecDepth 100000
set_option maxHeartbeats 1000000
theorem do_any (k f n a b c : Int) (s : Bool) (t : ByteArray) (h0 : 0 ≤ k) (h1 : k ≤ 15) (ht : k = 15 → t = ⟨#[97]⟩) (w : World) : Calls Tryd.prog 10 #[.pointer none, .agg #[.int .i64 k, .int .i64 f, .int .i64 n, .bool s, .int .i64 a, .int .i64 b, .int .i64 c, .string t]] w fun e w' => e = .returned (.agg #[.int .i64 0, .bool false, .int .i64 0, .int .i64 0, .int .i64 0, .int .i64 6]) ∧ Below w.heap.size w w' := by
  have h : k = 0 ∨ k = 1 ∨ k = 2 ∨ k = 3 ∨ k = 4 ∨ k = 5 ∨ k = 6 ∨ k = 7 ∨ k = 8 ∨ k = 9 ∨ k = 10 ∨ k = 11 ∨ k = 12 ∨ k = 13 ∨ k = 14 ∨ k = 15 := by omega
  rcases h with rfl | rfl | rfl | rfl | rfl | rfl | rfl | rfl | rfl | rfl | rfl | rfl | rfl | rfl | rfl | rfl
  · exact do0 f n a b c s t w
  · exact do1 f n a b c s t w
  · exact do2 f n a b c s t w
  · exact do3 f n a b c s t w
  · exact do4 f n a b c s t w
  · exact do5 f n a b c s t w
  · exact do6 f n a b c s t w
  · exact do7 f n a b c s t w
  · exact do8 f n a b c s t w
  · exact do9 f n a b c s t w
  · exact do10 f n a b c s t w
  · exact do11 f n a b c s t w
  · exact do12 f n a b c s t w
  · exact do13 f n a b c s t w
  · exact do14 f n a b c s t w
  · obtain rfl := ht rfl
    exact do15 f n a b c s w
def actC (k f n a b c : Int) (s : Bool) (t : ByteArray) : Array Value := #[.int .i64 k, .int .i64 f, .int .i64 n, .bool s, .int .i64 a, .int .i64 b, .int .i64 c, .string t]
theorem cC {w wx : World} {k f n a b c : Int} {s : Bool} {t : ByteArray} {l : List (Nat × Array Value × TypeId)} {g : Nat} (h : Bxs w wx ((g, actC k f n a b c s t, 31) :: l)) :
    (wx.cell? ⟨g, 0, none⟩ = some (.int .i64 k) ∧ wx.cell? ⟨g, 1, none⟩ = some (.int .i64 f) ∧ wx.cell? ⟨g, 2, none⟩ = some (.int .i64 n) ∧ wx.cell? ⟨g, 3, none⟩ = some (.bool s) ∧ wx.cell? ⟨g, 4, none⟩ = some (.int .i64 a) ∧ wx.cell? ⟨g, 5, none⟩ = some (.int .i64 b) ∧ wx.cell? ⟨g, 6, none⟩ = some (.int .i64 c) ∧ wx.cell? ⟨g, 7, none⟩ = some (.string t)) ∧ wx.frozen? ⟨g, 0, none⟩ = false ∧ wx.frozen? ⟨g, 7, none⟩ = false :=
  ⟨⟨(blk_cell h.get 0).trans rfl, (blk_cell h.get 1).trans rfl, (blk_cell h.get 2).trans rfl, (blk_cell h.get 3).trans rfl, (blk_cell h.get 4).trans rfl, (blk_cell h.get 5).trans rfl, (blk_cell h.get 6).trans rfl, (blk_cell h.get 7).trans rfl⟩, blk_frozen h.get 0, blk_frozen h.get 7⟩
theorem put0 {w wx : World} {k k' f n a b c : Int} {s : Bool} {t : ByteArray} (h : Bxs w wx [(w.heap.size, actC k f n a b c s t, 31)]) :
    Bxs w (wx.setCell ⟨w.heap.size, 0, none⟩ (.int .i64 k')) [(w.heap.size, actC k' f n a b c s t, 31)] := by
  refine ⟨fun p hp => ?_, below_set h.b (Nat.le_refl _)⟩
  obtain rfl := List.mem_singleton.1 hp
  exact blk_put h.get 0 _ rfl
theorem eq34 (d : Nat) (W : World) : (Op.equalIn (d + 3) 34 (.agg #[.int .i64 0, .bool false, .int .i64 0, .int .i64 0, .int .i64 0, .int .i64 6]) (.agg #[.int .i64 0, .bool false, .int .i64 0, .int .i64 0, .int .i64 0, .int .i64 6])).run Tryd.prog W = .ok true W := by kernel_rfl
theorem put7 {w wx : World} {k f n a b c : Int} {s : Bool} {t t' : ByteArray} (h : Bxs w wx [(w.heap.size, actC k f n a b c s t, 31)]) :
    Bxs w (wx.setCell ⟨w.heap.size, 7, none⟩ (.string t')) [(w.heap.size, actC k f n a b c s t', 31)] := by
  refine ⟨fun p hp => ?_, below_set h.b (Nat.le_refl _)⟩
  obtain rfl := List.mem_singleton.1 hp
  exact blk_put h.get 7 _ rfl
set_option maxRecDepth 100000 in
set_option maxHeartbeats 1000000 in
/-- the law, behind awake, at an act that is none of the ends -/
theorem law_mid (k f n a b c : Int) (s : Bool) (t : ByteArray) (w : World) (hA : ∀ w, Calls Tryd.prog 6 #[] w fun e w' => e = .returned (.bool true) ∧ Below w.heap.size w w') (hk0 : 0 < k) (hk1 : k < 15) :
    Calls Tryd.prog 4 #[.agg #[.int .i64 k, .int .i64 f, .int .i64 n, .bool s, .int .i64 a, .int .i64 b, .int .i64 c, .string t]] w fun e w' => e = .returned (.bool true) ∧ Below w.heap.size w w' := by
  have HX := Aside0.mk ((bxs_nil w).push (actC k f n a b c s t) 31)
  have HA := Aside0.mk hA
  clear hA
  have HD := Aside0.mk (do_any k f n a b c s t (by omega) (by omega) (fun h => by omega))
  have h15 : (k == 15) = false := by rw [beq_eq_false_iff_ne]; omega
  go_enter Tryd.func4, Tryd.ntmps4
  go_wp2_with fail
  refine (HA.out _).mono ?_
  rintro e1 w1 ⟨rfl, hb⟩
  have HX1 : Aside0 (Bxs w w1 [(w.heap.size, actC k f n a b c s t, 31)]) := ⟨by have := HX.out.next hb; simpa [actC] using this⟩
  clear HX hb
  have hmm : max 0 (min 15 k) = k := by omega
  obtain ⟨⟨z0, z1, z2, z3, z4, z5, z6, z7⟩, f0, f7⟩ := cC HX1.out
  go_wp2_with fail
  have HX2 := Aside0.mk (put0 (k' := k) HX1.out)
  clear z0 z1 z2 z3 z4 z5 z6 z7 f0 f7
  generalize w1.setCell ⟨w.heap.size, 0, none⟩ (.int .i64 k) = w2 at HX2 ⊢
  obtain ⟨⟨z0, z1, z2, z3, z4, z5, z6, z7⟩, f0, f7⟩ := cC HX2.out
  refine (position_nil _ _).mono ?_
  rintro e w' ⟨rfl, rfl⟩
  go_wp2_with (first | (go_at_call 16; refine (flag_nil _ _ _).mono ?_; rintro e w' ⟨rfl, rfl⟩) | (go_at_call 17; refine (ended_nil _ _ _).mono ?_; rintro e w' ⟨rfl, rfl⟩))
  refine (HD.out _).mono ?_
  rintro e1 w3 ⟨rfl, hb⟩
  have HX3 := Aside0.mk (HX2.out.next hb)
  clear hb z0 z1 z2 z3 z4 z5 z6 z7 f0 f7
  have heq := eq34
  go_wp2_with (first | (go_at_call 12; (with_reducible refine (books_nil _).mono ?_); rintro e1 w4 ⟨rfl, rfl⟩) | (go_at_call 14; (with_reducible refine (files_nil _).mono ?_); rintro e1 w4 ⟨rfl, rfl⟩) | (go_at_call 9; (with_reducible refine (clone_nil _).mono ?_); rintro e1 w4 ⟨rfl, rfl⟩))
  go_ret
  exact ⟨rfl, HX3.out.b⟩
set_option maxRecDepth 100000 in
set_option maxHeartbeats 1000000 in
/-- the law, behind awake, at an act that is the first, or below -/
theorem law_low (k f n a b c : Int) (s : Bool) (t : ByteArray) (w : World) (hA : ∀ w, Calls Tryd.prog 6 #[] w fun e w' => e = .returned (.bool true) ∧ Below w.heap.size w w') (hk0 : ¬ 0 < k) :
    Calls Tryd.prog 4 #[.agg #[.int .i64 k, .int .i64 f, .int .i64 n, .bool s, .int .i64 a, .int .i64 b, .int .i64 c, .string t]] w fun e w' => e = .returned (.bool true) ∧ Below w.heap.size w w' := by
  have HX := Aside0.mk ((bxs_nil w).push (actC k f n a b c s t) 31)
  have HA := Aside0.mk hA
  clear hA
  have HD := Aside0.mk (do_any 0 f n a b c s t (by omega) (by omega) (fun h => by omega))
  have hk1 : k < 15 := by omega
  go_enter Tryd.func4, Tryd.ntmps4
  go_wp2_with fail
  refine (HA.out _).mono ?_
  rintro e1 w1 ⟨rfl, hb⟩
  have HX1 : Aside0 (Bxs w w1 [(w.heap.size, actC k f n a b c s t, 31)]) := ⟨by have := HX.out.next hb; simpa [actC] using this⟩
  clear HX hb
  have hmm : max 0 (min 15 k) = 0 := by omega
  obtain ⟨⟨z0, z1, z2, z3, z4, z5, z6, z7⟩, f0, f7⟩ := cC HX1.out
  go_wp2_with fail
  have HX2 := Aside0.mk (put0 (k' := 0) HX1.out)
  clear z0 z1 z2 z3 z4 z5 z6 z7 f0 f7
  generalize w1.setCell ⟨w.heap.size, 0, none⟩ (.int .i64 0) = w2 at HX2 ⊢
  obtain ⟨⟨z0, z1, z2, z3, z4, z5, z6, z7⟩, f0, f7⟩ := cC HX2.out
  refine (position_nil _ _).mono ?_
  rintro e w' ⟨rfl, rfl⟩
  go_wp2_with (first | (go_at_call 16; refine (flag_nil _ _ _).mono ?_; rintro e w' ⟨rfl, rfl⟩) | (go_at_call 17; refine (ended_nil _ _ _).mono ?_; rintro e w' ⟨rfl, rfl⟩))
  refine (HD.out _).mono ?_
  rintro e1 w3 ⟨rfl, hb⟩
  have HX3 := Aside0.mk (HX2.out.next hb)
  clear hb z0 z1 z2 z3 z4 z5 z6 z7 f0 f7
  have heq := eq34
  go_wp2_with (first | (go_at_call 12; (with_reducible refine (books_nil _).mono ?_); rintro e1 w4 ⟨rfl, rfl⟩) | (go_at_call 14; (with_reducible refine (files_nil _).mono ?_); rintro e1 w4 ⟨rfl, rfl⟩) | (go_at_call 9; (with_reducible refine (clone_nil _).mono ?_); rintro e1 w4 ⟨rfl, rfl⟩))
  go_ret
  exact ⟨rfl, HX3.out.b⟩
set_option maxRecDepth 100000 in
set_option maxHeartbeats 1000000 in
/-- the law, behind awake, at the last act, or above -/
theorem law_high (k f n a b c : Int) (s : Bool) (t : ByteArray) (w : World) (hA : ∀ w, Calls Tryd.prog 6 #[] w fun e w' => e = .returned (.bool true) ∧ Below w.heap.size w w') (hk1 : ¬ k < 15) :
    Calls Tryd.prog 4 #[.agg #[.int .i64 k, .int .i64 f, .int .i64 n, .bool s, .int .i64 a, .int .i64 b, .int .i64 c, .string t]] w fun e w' => e = .returned (.bool true) ∧ Below w.heap.size w w' := by
  have HX := Aside0.mk ((bxs_nil w).push (actC k f n a b c s t) 31)
  have HA := Aside0.mk hA
  clear hA
  have HD := Aside0.mk (do_any 15 f n a b c s ⟨#[97]⟩ (by omega) (by omega) (fun _ => rfl))
  go_enter Tryd.func4, Tryd.ntmps4
  go_wp2_with fail
  refine (HA.out _).mono ?_
  rintro e1 w1 ⟨rfl, hb⟩
  have HX1 : Aside0 (Bxs w w1 [(w.heap.size, actC k f n a b c s t, 31)]) := ⟨by have := HX.out.next hb; simpa [actC] using this⟩
  clear HX hb
  have hmm : max 0 (min 15 k) = 15 := by omega
  obtain ⟨⟨z0, z1, z2, z3, z4, z5, z6, z7⟩, f0, f7⟩ := cC HX1.out
  go_wp2_with fail
  have HX2 := Aside0.mk (put7 (t' := ⟨#[97]⟩) (put0 (k' := 15) HX1.out))
  clear z0 z1 z2 z3 z4 z5 z6 z7 f0 f7
  generalize (w1.setCell ⟨w.heap.size, 0, none⟩ (.int .i64 15)).setCell ⟨w.heap.size, 7, none⟩ (.string ⟨#[97]⟩) = w2 at HX2 ⊢
  obtain ⟨⟨z0, z1, z2, z3, z4, z5, z6, z7⟩, f0, f7⟩ := cC HX2.out
  refine (position_nil _ _).mono ?_
  rintro e w' ⟨rfl, rfl⟩
  go_wp2_with (first | (go_at_call 16; refine (flag_nil _ _ _).mono ?_; rintro e w' ⟨rfl, rfl⟩) | (go_at_call 17; refine (ended_nil _ _ _).mono ?_; rintro e w' ⟨rfl, rfl⟩))
  refine (HD.out _).mono ?_
  rintro e1 w3 ⟨rfl, hb⟩
  have HX3 := Aside0.mk (HX2.out.next hb)
  clear hb z0 z1 z2 z3 z4 z5 z6 z7 f0 f7
  have heq := eq34
  go_wp2_with (first | (go_at_call 12; (with_reducible refine (books_nil _).mono ?_); rintro e1 w4 ⟨rfl, rfl⟩) | (go_at_call 14; (with_reducible refine (files_nil _).mono ?_); rintro e1 w4 ⟨rfl, rfl⟩) | (go_at_call 9; (with_reducible refine (clone_nil _).mono ?_); rintro e1 w4 ⟨rfl, rfl⟩))
  go_ret
  exact ⟨rfl, HX3.out.b⟩
/-- THE LAW's WALK, behind awake -/
theorem law_nil (k f n a b c : Int) (s : Bool) (t : ByteArray) (w : World) (hA : ∀ w, Calls Tryd.prog 6 #[] w fun e w' => e = .returned (.bool true) ∧ Below w.heap.size w w') :
    Calls Tryd.prog 4 #[.agg #[.int .i64 k, .int .i64 f, .int .i64 n, .bool s, .int .i64 a, .int .i64 b, .int .i64 c, .string t]] w fun e w' => e = .returned (.bool true) ∧ Below w.heap.size w w' := by
  by_cases h0 : 0 < k
  · by_cases h1 : k < 15
    · exact law_mid k f n a b c s t w hA h0 h1
    · exact law_high k f n a b c s t w hA h1
  · exact law_low k f n a b c s t w hA h0
theorem books_nil_law (k f n a b c : Int) (s : Bool) (t : ByteArray) (w : World) : Calls Tryd.prog 4 #[.agg #[.int .i64 k, .int .i64 f, .int .i64 n, .bool s, .int .i64 a, .int .i64 b, .int .i64 c, .string t]] w fun e w' => e = .returned (.bool true) ∧ Below w.heap.size w w' := law_nil k f n a b c s t w awake_walk
end Go.Proofs.YtonmdifmlpfcpaaDoor.PB
