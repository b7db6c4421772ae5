import Derived.StillTailTactics
import Derived.ArgAppend
import Derived.Below
import Derived.BigQuiet
import Derived.Deep.AppendLies
import Derived.Deep.CutBlock
import Derived.Deep.DeepCutAuto
import Derived.Deep.Draws
import Derived.Deep.LoopGhost
import Derived.Deep.OwnRows
import Derived.Deep.QuietTactic
import Derived.Deep.RegionHeld3
import Derived.KernelRfl
import Derived.Laws.Bits64b
import Derived.Laws.BitsLemmas
import Derived.Laws.BytesArg
import Derived.Laws.Externs
import Derived.Laws.IdiomCopy
import Derived.Laws.MakeOwn
import Derived.Laws.MathBits
import Derived.Laws.OwnMore
import Derived.Laws.Rows
import Derived.Laws.Slices
import Derived.Lib.AppendStr
import Derived.Lib.ConvBytes
import Derived.Maps.AppendAt
import Derived.OrdersHeld
import Derived.OwnWalk
import Derived.RowKit
import Derived.RowKit3
import Derived.Tactics
import Derived.Test.YtonmdifmlpfcpaaDoorProg
import Derived.WalkKit
import Derived.WideLaws
import Derived.Test.YtonmdifmlpfcpaaDoorWWords
import Derived.Test.YtonmdifmlpfcpaaDoorWLast
import Derived.Test.YtonmdifmlpfcpaaDoorWTab
import Derived.Test.YtonmdifmlpfcpaaDoorWFour
import Derived.Test.YtonmdifmlpfcpaaDoorWQPut
import Derived.Test.YtonmdifmlpfcpaaDoorWApart
import Derived.Test.YtonmdifmlpfcpaaDoorWArr
import Derived.Test.YtonmdifmlpfcpaaDoorWZeros
import Derived.Test.YtonmdifmlpfcpaaDoorWFoot
import Derived.Test.YtonmdifmlpfcpaaDoorWKept
import Derived.Test.YtonmdifmlpfcpaaDoorWShare
import Derived.Test.YtonmdifmlpfcpaaDoorWN
import Derived.Test.YtonmdifmlpfcpaaDoorWFootNe
import Derived.Test.YtonmdifmlpfcpaaDoorWAt
import Derived.Test.YtonmdifmlpfcpaaDoorWEqStruct
import Derived.Test.YtonmdifmlpfcpaaDoorWRepsOne
import Derived.Test.YtonmdifmlpfcpaaDoorWInv
import Derived.Test.YtonmdifmlpfcpaaDoorWInvWords
import Derived.Test.YtonmdifmlpfcpaaDoorWGuard
import Derived.Test.YtonmdifmlpfcpaaDoorWNEv
import Derived.Test.YtonmdifmlpfcpaaDoorWMore
import Derived.Test.YtonmdifmlpfcpaaDoorBnamed
import Derived.Test.YtonmdifmlpfcpaaDoorBwa
namespace Go.Proofs.YtonmdifmlpfcpaaDoor.PB
open Go.RowKit Go.Proofs.YtonmdifmlpfcpaaDoorW.PrintWords Go.Proofs.YtonmdifmlpfcpaaDoorW.PrintLast Go.Proofs.YtonmdifmlpfcpaaDoorW.PrintMore
set_option linter.unusedVariables false
set_option linter.unusedSimpArgs false
set_option maxRecDepth 100000
set_option maxHeartbeats 1000000
/-- a book as the callers hand it in -/
structure ABk where
  name : ByteArray
  text : ByteArray
  write : Bool
def ABk.cells (b : ABk) : Array Value := #[.string b.name, .string b.text, .bool b.write]
/-- the cells of a slice of such books -/
def AAt (w : World) (a : Option Addr) (bs : List ABk) : Prop :=
  ∀ i (hi : i < bs.length), ∃ g o, a = some ⟨g, o, none⟩ ∧ w.cell? ⟨g, o + i * 3, none⟩ = some (.string (bs[i]'hi).name) ∧ w.cell? ⟨g, o + i * 3 + 1, none⟩ = some (.string (bs[i]'hi).text) ∧ w.cell? ⟨g, o + i * 3 + 2, none⟩ = some (.bool (bs[i]'hi).write)
theorem AAt.below {w w' : World} {a : Option Addr} {bs : List ABk} (h : AAt w a bs) (hb : Below w.heap.size w w') : AAt w' a bs := by
  intro i hi
  obtain ⟨g, o, ha, h0, h1, h2⟩ := h i hi
  exact ⟨g, o, ha, (hb.cell (World.block_lt_of_cell? w _ h0)).trans h0, (hb.cell (World.block_lt_of_cell? w _ h1)).trans h1, (hb.cell (World.block_lt_of_cell? w _ h2)).trans h2⟩
theorem AAt.take {w : World} {a : Option Addr} {bs : List ABk} (h : AAt w a bs) (n : Nat) : AAt w a (bs.take n) := by
  intro i hi
  have hi' : i < bs.length := by rw [List.length_take] at hi; omega
  rw [List.getElem_take]
  exact h i hi'
theorem same_walk (x : ABk) (bb : Nat) (nm : ByteArray) (w : World) (h : w.cell? ⟨bb, 0, none⟩ = some (.string nm)) : Calls Tryd.prog 73 #[.agg #[.string x.name, .string x.text, .bool x.write], .pointer (some ⟨bb, 0, none⟩)] w fun e w' => e = .returned (.bool (x.name.toList == nm.toList)) ∧ Below w.heap.size w w' := by
  have hlt : bb < w.heap.size := World.block_lt_of_cell? w _ h
  have hne : bb ≠ w.heap.size := by omega
  go_enter Tryd.func73, Tryd.ntmps73
  go_wp2
  go_ret
  exact ⟨rfl, below_alloc (Below.refl _ _) _⟩
theorem idx_same (nm : ByteArray) (bb : Nat) (bs : List ABk) (a : Option Addr) (cap : Nat) (w : World) (hlen : bs.length ≤ 100) (hA : AAt w a bs) (h : w.cell? ⟨bb, 0, none⟩ = some (.string nm)) (R : Bool) (hR : (bs.any fun x => x.name.toList == nm.toList) = R) :
    Calls Tryd.prog 55 #[.slice a bs.length cap, .func (.func 73) #[] #[.pointer (some ⟨bb, 0, none⟩)]] w fun e w' => (∃ r : Int, e = .returned (.int .i64 r) ∧ decide (0 ≤ r) = R) ∧ Below w.heap.size w w' := by
  have HA := Aside0.mk hA
  have hbb : bb < w.heap.size := World.block_lt_of_cell? w _ h
  have HH := Aside0.mk h
  have HR := Aside0.mk hR
  clear hA h hR
  have HB0 := Aside0.mk (Below.refl w.heap.size w)
  go_enter Tryd.func55, Tryd.ntmps55
  go_wp2
  go_loopw [8] (fun i wr => ∃ k : Nat, k ≤ bs.length ∧ i = .int .i64 k ∧ Aside0 (Below w.heap.size w wr) ∧ Aside0 ((bs.take k).any (fun x => x.name.toList == nm.toList) = false)) (fun i _ => bs.length - (intOf i).toNat)
  case atStart => exact ⟨0, Nat.zero_le _, rfl, HB0, ⟨by simp⟩⟩
  case round =>
    obtain ⟨k, hk, rfl, HB, HK⟩ := hrel
    by_cases hlt : k < bs.length
    · obtain ⟨g, o, rfl, h0, h1, h2⟩ := (HA.out.below HB.out) k hlt
      have hc := (HB.out.cell (p := ⟨bb, 0, none⟩) hbb).trans HH.out
      have hsn : (bs.take (k + 1)).any (fun x => x.name.toList == nm.toList) = (bs[k].name.toList == nm.toList) := by
        rw [List.take_succ_eq_append_getElem hlt, List.any_append, HK.out]; simp
      have HSN := Aside0.mk hsn
      have HM := Aside0.mk (List.getElem_mem hlt)
      clear hsn
      generalize bs[k] = x at *
      have HC := Aside0.mk (same_walk x bb nm wr hc)
      clear hc
      cases hq : (x.name.toList == nm.toList) with
      | true =>
        rw [hq] at HC HSN
        have hany : bs.any (fun x => x.name.toList == nm.toList) = true := List.any_eq_true.2 ⟨x, HM.out, hq⟩
        obtain rfl : true = R := hany.symm.trans HR.out
        clear hq hany
        go_wp2_with (go_at_call 73; refine HC.out.mono ?_; rintro e w' ⟨rfl, hb⟩)
        go_ret
        exact ⟨⟨k, rfl, decide_eq_true (by omega)⟩, below_step HB.out hb⟩
      | false =>
        rw [hq] at HC HSN
        clear hq
        go_wp2_with (go_at_call 73; refine HC.out.mono ?_; rintro e w' ⟨rfl, hb⟩)
        go_roundw
        case rel => exact ⟨k + 1, by omega, by go_num, ⟨below_step HB.out hb⟩, HSN⟩
        case measure => simp [intOf]; omega
    · obtain rfl : k = bs.length := by omega
      have hany := HK.out
      rw [List.take_length] at hany
      obtain rfl : false = R := hany.symm.trans HR.out
      clear hany
      go_wp2
      go_ret
      exact ⟨⟨-1, rfl, rfl⟩, HB.out⟩
theorem has_same (nm : ByteArray) (bb : Nat) (bs : List ABk) (a : Option Addr) (cap : Nat) (w : World) (hlen : bs.length ≤ 100) (hA : AAt w a bs) (h : w.cell? ⟨bb, 0, none⟩ = some (.string nm)) :
    Calls Tryd.prog 26 #[.slice a bs.length cap, .func (.func 73) #[] #[.pointer (some ⟨bb, 0, none⟩)]] w fun e w' => e = .returned (.bool (bs.any fun x => x.name.toList == nm.toList)) ∧ Below w.heap.size w w' := by
  have HI := Aside0.mk (idx_same nm bb bs a cap w hlen hA h _ rfl)
  clear hA h
  generalize (bs.any fun x => x.name.toList == nm.toList) = b at *
  go_enter Tryd.func26, Tryd.ntmps26
  go_wp2_with (go_at_call 55; refine HI.out.mono ?_; rintro e w' ⟨⟨r, rfl, hr⟩, hb⟩)
  go_ret
  exact ⟨rfl, hb⟩
end Go.Proofs.YtonmdifmlpfcpaaDoor.PB
