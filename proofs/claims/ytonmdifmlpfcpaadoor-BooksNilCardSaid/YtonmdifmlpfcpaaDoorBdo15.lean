import Derived.StillTailTactics
import Derived.ArgAppend
import Derived.Below
import Derived.BigQuiet
import Derived.Deep.AppendLies
import Derived.Deep.CutBlock
import Derived.Deep.DeepCutAuto
import Derived.Deep.Draws
import Derived.Deep.LoopGhost
import Derived.Deep.OwnRows
import Derived.Deep.QuietTactic
import Derived.Deep.RegionHeld3
import Derived.KernelRfl
import Derived.Laws.Bits64b
import Derived.Laws.BitsLemmas
import Derived.Laws.BytesArg
import Derived.Laws.Externs
import Derived.Laws.IdiomCopy
import Derived.Laws.MakeOwn
import Derived.Laws.MathBits
import Derived.Laws.OwnMore
import Derived.Laws.Rows
import Derived.Laws.Slices
import Derived.Lib.AppendStr
import Derived.Lib.ConvBytes
import Derived.Maps.AppendAt
import Derived.OrdersHeld
import Derived.OwnWalk
import Derived.RowKit
import Derived.RowKit3
import Derived.Tactics
import Derived.Test.YtonmdifmlpfcpaaDoorProg
import Derived.WalkKit
import Derived.WideLaws
import Derived.Lib.Walk
import Derived.Lib.SliceRun
import Derived.Lib.JoinLaws
import Derived.Lib.AppendZeros
import Derived.Lib.Overlaps
import Derived.Lib.AppendZerosOnto
import Derived.Shelf.RegionOpenPlain
import Derived.Shelf.Spec.SlicesInsert
import Derived.Deep.RegionLaw
import Derived.Test.YtonmdifmlpfcpaaDoorWWords
import Derived.Test.YtonmdifmlpfcpaaDoorWLast
import Derived.Test.YtonmdifmlpfcpaaDoorWTab
import Derived.Test.YtonmdifmlpfcpaaDoorWFour
import Derived.Test.YtonmdifmlpfcpaaDoorWQPut
import Derived.Test.YtonmdifmlpfcpaaDoorWApart
import Derived.Test.YtonmdifmlpfcpaaDoorWArr
import Derived.Test.YtonmdifmlpfcpaaDoorWZeros
import Derived.Test.YtonmdifmlpfcpaaDoorWFoot
import Derived.Test.YtonmdifmlpfcpaaDoorWKept
import Derived.Test.YtonmdifmlpfcpaaDoorWShare
import Derived.Test.YtonmdifmlpfcpaaDoorWN
import Derived.Test.YtonmdifmlpfcpaaDoorWFootNe
import Derived.Test.YtonmdifmlpfcpaaDoorWAt
import Derived.Test.YtonmdifmlpfcpaaDoorWEqStruct
import Derived.Test.YtonmdifmlpfcpaaDoorWRepsOne
import Derived.Test.YtonmdifmlpfcpaaDoorWInv
import Derived.Test.YtonmdifmlpfcpaaDoorWInvWords
import Derived.Test.YtonmdifmlpfcpaaDoorWGuard
import Derived.Test.YtonmdifmlpfcpaaDoorWNEv
import Derived.Test.YtonmdifmlpfcpaaDoorWMore
import Derived.Test.YtonmdifmlpfcpaaDoorBdo
namespace Go.Proofs.YtonmdifmlpfcpaaDoor.PB
open Go.RowKit Go.Proofs.YtonmdifmlpfcpaaDoorW.PrintWords Go.Proofs.YtonmdifmlpfcpaaDoorW.PrintLast Go.Proofs.YtonmdifmlpfcpaaDoorW.PrintMore
set_option linter.unusedVariables false
set_option linter.unusedSimpArgs false
set_option maxRecDepth 100000
set_option maxHeartbeats 1000000
def actA (f n a b c : Int) (s : Bool) : Array Value := #[.int .i64 15, .int .i64 f, .int .i64 n, .bool s, .int .i64 a, .int .i64 b, .int .i64 c, .string ⟨#[97]⟩]
def doneD (e : Int) : Array Value := #[.int .i64 0, .bool false, .int .i64 0, .int .i64 0, .int .i64 0, .int .i64 e]
theorem at15 {w wx : World} {f n a b c e : Int} {s : Bool} (h : Bxs w wx [(w.heap.size + 1, doneD e, 34), (w.heap.size, actA f n a b c s, 31)]) :
    wx.cell? ⟨w.heap.size, 1, none⟩ = some (.int .i64 f) ∧ wx.cell? ⟨w.heap.size, 7, none⟩ = some (.string ⟨#[97]⟩) ∧ wx.cell? ⟨w.heap.size + 1, 5, none⟩ = some (.int .i64 e) ∧ wx.frozen? ⟨w.heap.size + 1, 5, none⟩ = false :=
  ⟨(blk_cell h.tail.get 1).trans rfl, (blk_cell h.tail.get 7).trans rfl, (blk_cell h.get 5).trans rfl, blk_frozen h.get 5⟩
theorem put6 {w wx : World} {f n a b c e e' : Int} {s : Bool} (h : Bxs w wx [(w.heap.size + 1, doneD e, 34), (w.heap.size, actA f n a b c s, 31)]) :
    Bxs w (wx.setCell ⟨w.heap.size + 1, 5, none⟩ (.int .i64 e')) [(w.heap.size + 1, doneD e', 34), (w.heap.size, actA f n a b c s, 31)] := by
  refine ⟨fun p hp => ?_, below_set h.b (Nat.le_succ _)⟩
  rcases List.mem_cons.1 hp with rfl | hp
  · exact blk_put h.get 5 _ rfl
  · obtain rfl := List.mem_singleton.1 hp
    exact blk_far h.tail.get (by show w.heap.size ≠ w.heap.size + 1; omega) _
/-- what the round's region keeps -/
def S15 (w : World) (f n a b c : Int) (s : Bool) (w' : World) : Prop := ∃ e, Bxs w w' [(w.heap.size + 1, doneD e, 34), (w.heap.size, actA f n a b c s, 31)]
theorem s15 {w wx : World} {f n a b c e : Int} {s : Bool} (h : Bxs w wx [(w.heap.size + 1, doneD e, 34), (w.heap.size, actA f n a b c s, 31)]) :
    (wx.cell? ⟨w.heap.size, 1, none⟩ = some (.int .i64 f) ∧ wx.cell? ⟨w.heap.size, 7, none⟩ = some (.string ⟨#[97]⟩)) ∧ Aside0 (S15 w f n a b c s wx) :=
  ⟨⟨(at15 h).1, (at15 h).2.1⟩, ⟨⟨e, h⟩⟩⟩
set_option maxRecDepth 100000 in
set_option maxHeartbeats 1000000 in
theorem do15 (f n a b c : Int) (s : Bool) (w : World) : Calls Tryd.prog 10 #[.pointer none, .agg #[.int .i64 15, .int .i64 f, .int .i64 n, .bool s, .int .i64 a, .int .i64 b, .int .i64 c, .string ⟨#[97]⟩]] w fun e w' => e = .returned (.agg #[.int .i64 0, .bool false, .int .i64 0, .int .i64 0, .int .i64 0, .int .i64 6]) ∧ Below w.heap.size w w' := by
  have HX0 := Aside0.mk (((bxs_nil w).push (actA f n a b c s) 31).push (doneD 0) 34)
  go_enter Tryd.func10, Tryd.ntmps10
  go_wp2_with fail
  go_loopw [5] (fun v wr => ∃ i : Nat, (i = 0 ∧ v = .int .i64 0 ∧ Aside0 (Bxs w wr [(w.heap.size + 1, doneD 0, 34), (w.heap.size, actA f n a b c s, 31)])) ∨ (i = 1 ∧ v = .int .i64 1 ∧ Aside0 (Bxs w wr [(w.heap.size + 1, doneD 6, 34), (w.heap.size, actA f n a b c s, 31)]))) (fun v _ => 2 - (intOf v).toNat)
  case atStart => exact ⟨0, .inl ⟨rfl, rfl, ⟨by have := HX0.out; simp only [actA, doneD] at this ⊢; simpa using this⟩⟩⟩
  case round =>
    obtain ⟨i, ⟨rfl, rfl, HX⟩ | ⟨rfl, rfl, HX⟩⟩ := hrel
    · clear HX0
      obtain ⟨h1, h7, h5, hf5⟩ := at15 HX.out
      have hsz : (⟨#[97]⟩ : ByteArray).size = 1 := rfl
      go_wp2_with fail
      go_region_held3 (fun w' => (w'.cell? ⟨w.heap.size, 1, none⟩ = some (.int .i64 f) ∧ w'.cell? ⟨w.heap.size, 7, none⟩ = some (.string ⟨#[97]⟩)) ∧ Aside0 (S15 w f n a b c s w')) (((try go_split_ands); (first | exact s15 HX.out | exact s15 HX.out.drew | exact s15 (put6 HX.out) | exact s15 (put6 HX.out).drew | exact s15 (put6 HX.out.drew)))) ((go_at_call 38; (with_reducible refine (put_nil _ _ _).mono ?_); rintro e w' ⟨rfl, rfl⟩))
      go_wp2_with fail
      go_roundw
      case rel => exact ⟨1, .inr ⟨rfl, rfl, ⟨by first | exact (put6 HX.out).drew | exact put6 HX.out.drew | exact put6 HX.out⟩⟩⟩
      case measure => simp [intOf]
    · clear HX0
      obtain ⟨h1, h7, h5, hf5⟩ := at15 HX.out
      have hsz : (⟨#[97]⟩ : ByteArray).size = 1 := rfl
      obtain ⟨d0, d1, d2, d3, d4, d5⟩ := c6 HX.out.get
      have hfr := fun i => blk_frozen HX.out.get i
      have f0 := hfr 0; have f1 := hfr 1; have f2 := hfr 2; have f3 := hfr 3; have f4 := hfr 4; have f5 := hfr 5
      clear hfr
      go_wp2_with fail
      refine bodyPost_ret (v := .agg #[.int .i64 0, .bool false, .int .i64 0, .int .i64 0, .int .i64 0, .int .i64 6]) ?_ rfl ⟨rfl, ?_⟩
      · simp [results, Tryd.results10, go_sem, d0, d1, d2, d3, d4, d5]
      · have hg : w.heap.size ≤ w.heap.size + 1 := Nat.le_succ _
        exact below_set (below_set (below_set (below_set (below_set (below_set HX.out.b hg) hg) hg) hg) hg) hg
end Go.Proofs.YtonmdifmlpfcpaaDoor.PB
