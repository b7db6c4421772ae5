import Derived.StillTailTactics
import Derived.ArgAppend
import Derived.Below
import Derived.BigQuiet
import Derived.Deep.AppendLies
import Derived.Deep.CutBlock
import Derived.Deep.DeepCutAuto
import Derived.Deep.Draws
import Derived.Deep.LoopGhost
import Derived.Deep.OwnRows
import Derived.Deep.QuietTactic
import Derived.Deep.RegionHeld3
import Derived.KernelRfl
import Derived.Laws.Bits64b
import Derived.Laws.BitsLemmas
import Derived.Laws.BytesArg
import Derived.Laws.Externs
import Derived.Laws.IdiomCopy
import Derived.Laws.MakeOwn
import Derived.Laws.MathBits
import Derived.Laws.OwnMore
import Derived.Laws.Rows
import Derived.Laws.Slices
import Derived.Lib.AppendStr
import Derived.Lib.ConvBytes
import Derived.Maps.AppendAt
import Derived.OrdersHeld
import Derived.OwnWalk
import Derived.RowKit
import Derived.RowKit3
import Derived.Tactics
import Derived.Test.YtonmdifmlpfcpaaDoorProg
import Derived.WalkKit
import Derived.WideLaws
import Derived.Test.YtonmdifmlpfcpaaDoorWWords
import Derived.Test.YtonmdifmlpfcpaaDoorWLast
import Derived.Test.YtonmdifmlpfcpaaDoorWTab
import Derived.Test.YtonmdifmlpfcpaaDoorWFour
import Derived.Test.YtonmdifmlpfcpaaDoorWQPut
import Derived.Test.YtonmdifmlpfcpaaDoorWApart
import Derived.Test.YtonmdifmlpfcpaaDoorWArr
import Derived.Test.YtonmdifmlpfcpaaDoorWZeros
import Derived.Test.YtonmdifmlpfcpaaDoorWFoot
import Derived.Test.YtonmdifmlpfcpaaDoorWKept
import Derived.Test.YtonmdifmlpfcpaaDoorWShare
import Derived.Test.YtonmdifmlpfcpaaDoorWN
import Derived.Test.YtonmdifmlpfcpaaDoorWFootNe
import Derived.Test.YtonmdifmlpfcpaaDoorWAt
import Derived.Test.YtonmdifmlpfcpaaDoorWEqStruct
import Derived.Test.YtonmdifmlpfcpaaDoorWRepsOne
import Derived.Test.YtonmdifmlpfcpaaDoorWInv
import Derived.Test.YtonmdifmlpfcpaaDoorWInvWords
import Derived.Test.YtonmdifmlpfcpaaDoorWGuard
import Derived.Test.YtonmdifmlpfcpaaDoorWNEv
import Derived.Test.YtonmdifmlpfcpaaDoorWMore
import Derived.Test.YtonmdifmlpfcpaaDoorBwa
namespace Go.Proofs.YtonmdifmlpfcpaaDoor.PB
open Go.RowKit Go.Proofs.YtonmdifmlpfcpaaDoorW.PrintWords Go.Proofs.YtonmdifmlpfcpaaDoorW.PrintLast Go.Proofs.YtonmdifmlpfcpaaDoorW.PrintMore
set_option linter.unusedVariables false
set_option linter.unusedSimpArgs false
set_option maxRecDepth 100000
set_option maxHeartbeats 1000000
def namedB (s : ByteArray) : Bool := s.data.toList.all (fun c => decide (33 ≤ c.toNat ∧ c.toNat ≤ 126)) && decide (s.size ≠ 0) && decide (s.size ≤ 40)
theorem str_emp (s : ByteArray) : s.toList.isEmpty = decide (s.size = 0) := by
  rw [ByteArray.toList_eq]
  have h1 : s.size = s.data.toList.length := by simp
  rw [h1]
  cases s.data.toList with
  | nil => rfl
  | cons c r => rfl
theorem plain_walk (c : Int) (w : World) : Calls Tryd.prog 67 #[.int .i64 c] w fun e w' => e = .returned (.bool (decide (32 ≤ c ∧ c ≤ 126))) ∧ w = w' := by
  by_cases h1 : 32 ≤ c
  · by_cases h2 : c ≤ 126
    · rw [decide_eq_true ⟨h1, h2⟩]
      go_enter Tryd.func67, Tryd.ntmps67
      go_wp2
      go_ret
      exact ⟨rfl, rfl⟩
    · rw [decide_eq_false (fun h => h2 h.2)]
      go_enter Tryd.func67, Tryd.ntmps67
      go_wp2
      go_ret
      exact ⟨rfl, rfl⟩
  · rw [decide_eq_false (fun h => h1 h.1)]
    go_enter Tryd.func67, Tryd.ntmps67
    go_wp2
    go_ret
    exact ⟨rfl, rfl⟩
theorem named_walk (s : ByteArray) (w : World) (hs : s.size ≤ 9223372036854775807) (r : Bool) (hr : namedB s = r) : Calls Tryd.prog 57 #[.string s] w fun e w' => e = .returned (.bool r) ∧ Below w.heap.size w w' := by
  have hconv := Lib.run_convert_string_bytes (P := Tryd.prog) w 9 70 5 s Tryd.underlying9 Tryd.underlying70 Tryd.underlying5
  have HC : Aside0 (∀ j, j < s.size → (Lib.bytesWorld w 5 s).cell? ⟨w.heap.size, j, none⟩ = some (.int .u8 (s.data.toList.getD j 0).toNat)) := ⟨fun j hj => Lib.bytesWorld_cell w 5 s j hj⟩
  have HB : Aside0 (Below w.heap.size w (Lib.bytesWorld w 5 s)) := ⟨⟨rfl, rfl, rfl, by rw [Lib.bytesWorld_size]; omega, fun k hk => Lib.bytesWorld_at_old w 5 s k hk⟩⟩
  have hlen : s.data.toList.length = s.size := by simp
  have HL := Aside0.mk hlen
  have HR := Aside0.mk hr
  clear hlen hr
  generalize hW : Lib.bytesWorld w 5 s = W at *
  have HW := Aside0.mk hW
  clear hW
  go_enter Tryd.func57, Tryd.ntmps57
  go_wp2
  go_loop [8] (fun i => ∃ k : Nat, k ≤ s.size ∧ i = .int .i64 k ∧ Aside0 ((s.data.toList.take k).all (fun c => decide (33 ≤ c.toNat ∧ c.toNat ≤ 126)) = true)) (fun i => s.size - (intOf i).toNat)
  case atStart => exact ⟨0, Nat.zero_le _, rfl, ⟨by simp⟩⟩
  case round =>
    obtain ⟨k, hk, rfl, HK⟩ := hrel
    by_cases hlt : k < s.size
    · have hc := HC.out k hlt
      have hsn : s.data.toList.take (k + 1) = s.data.toList.take k ++ [s.data.toList.getD k 0] := by
        rw [List.take_succ_eq_append_getElem (by rw [HL.out]; exact hlt), List.getD_eq_getElem?_getD, List.getElem?_eq_getElem (by rw [HL.out]; exact hlt)]; rfl
      have hmem : s.data.toList.getD k 0 ∈ s.data.toList := by
        rw [List.getD_eq_getElem?_getD, List.getElem?_eq_getElem (by rw [HL.out]; exact hlt)]; exact List.getElem_mem _
      have HSN := Aside0.mk hsn
      have HME := Aside0.mk hmem
      clear hsn hmem
      generalize s.data.toList.getD k 0 = c at *
      have hc0 : c.toNat ≤ 255 := by have := c.toNat_lt; omega
      by_cases h1 : c.toNat < 33
      · have hf : namedB s = false := by
          unfold namedB
          rw [Bool.and_eq_false_iff, Bool.and_eq_false_iff]
          exact .inl (.inl (List.all_eq_false.2 ⟨c, HME.out, by simp; omega⟩))
        obtain rfl : false = r := hf.symm.trans HR.out
        clear hf
        generalize c.toNat = d at *
        go_wp2
        go_ret
        exact ⟨rfl, HB.out⟩
      · by_cases h2 : 126 < c.toNat
        · have hf : namedB s = false := by
            unfold namedB
            rw [Bool.and_eq_false_iff, Bool.and_eq_false_iff]
            exact .inl (.inl (List.all_eq_false.2 ⟨c, HME.out, by simp; omega⟩))
          obtain rfl : false = r := hf.symm.trans HR.out
          clear hf
          generalize c.toNat = d at *
          go_wp2
          go_ret
          exact ⟨rfl, HB.out⟩
        · have HA : Aside0 ((s.data.toList.take (k + 1)).all (fun c => decide (33 ≤ c.toNat ∧ c.toNat ≤ 126)) = true) := ⟨by
            rw [HSN.out, List.all_append, HK.out]
            simp; omega⟩
          generalize c.toNat = d at *
          go_wp2
          go_round
          case rel => exact ⟨k + 1, by omega, by go_num, HA⟩
          case measure => simp [intOf]; omega
    · obtain rfl : k = s.size := by omega
      have ht : s.data.toList.take s.size = s.data.toList := List.take_of_length_le (by rw [HL.out]; exact Nat.le_refl _)
      rw [ht] at HK
      have hr2 : (decide (s.size ≠ 0) && decide (s.size ≤ 40)) = r := by
        rw [← HR.out]; unfold namedB; rw [HK.out, Bool.true_and]
      clear ht HK HR
      have hemp := str_emp s
      by_cases h0 : s.size = 0
      · obtain rfl : false = r := by rw [← hr2]; simp [h0]
        rw [decide_eq_true h0] at hemp
        clear hr2
        go_wp2
        go_ret
        exact ⟨rfl, HB.out⟩
      · rw [decide_eq_false h0] at hemp
        by_cases h40 : s.size ≤ 40
        · obtain rfl : true = r := by rw [← hr2]; simp [h0, h40]
          clear hr2
          go_wp2
          go_ret
          exact ⟨congrArg (fun b => Ending.returned (.bool b)) (decide_eq_true (by omega)), HB.out⟩
        · obtain rfl : false = r := by rw [← hr2]; simp [h40]
          clear hr2
          go_wp2
          go_ret
          exact ⟨congrArg (fun b => Ending.returned (.bool b)) (decide_eq_false (by omega)), HB.out⟩
end Go.Proofs.YtonmdifmlpfcpaaDoor.PB
