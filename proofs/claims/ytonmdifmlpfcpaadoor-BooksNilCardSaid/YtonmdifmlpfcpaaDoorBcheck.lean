import Derived.StillTailTactics
import Derived.ArgAppend
import Derived.Below
import Derived.BigQuiet
import Derived.Deep.AppendLies
import Derived.Deep.CutBlock
import Derived.Deep.DeepCutAuto
import Derived.Deep.Draws
import Derived.Deep.LoopGhost
import Derived.Deep.OwnRows
import Derived.Deep.QuietTactic
import Derived.Deep.RegionHeld3
import Derived.KernelRfl
import Derived.Laws.Bits64b
import Derived.Laws.BitsLemmas
import Derived.Laws.BytesArg
import Derived.Laws.Externs
import Derived.Laws.IdiomCopy
import Derived.Laws.MakeOwn
import Derived.Laws.MathBits
import Derived.Laws.OwnMore
import Derived.Laws.Rows
import Derived.Laws.Slices
import Derived.Lib.AppendStr
import Derived.Lib.ConvBytes
import Derived.Maps.AppendAt
import Derived.OrdersHeld
import Derived.OwnWalk
import Derived.RowKit
import Derived.RowKit3
import Derived.Tactics
import Derived.Test.YtonmdifmlpfcpaaDoorProg
import Derived.WalkKit
import Derived.WideLaws
import Derived.Test.YtonmdifmlpfcpaaDoorWWords
import Derived.Test.YtonmdifmlpfcpaaDoorWLast
import Derived.Test.YtonmdifmlpfcpaaDoorWTab
import Derived.Test.YtonmdifmlpfcpaaDoorWFour
import Derived.Test.YtonmdifmlpfcpaaDoorWQPut
import Derived.Test.YtonmdifmlpfcpaaDoorWApart
import Derived.Test.YtonmdifmlpfcpaaDoorWArr
import Derived.Test.YtonmdifmlpfcpaaDoorWZeros
import Derived.Test.YtonmdifmlpfcpaaDoorWFoot
import Derived.Test.YtonmdifmlpfcpaaDoorWKept
import Derived.Test.YtonmdifmlpfcpaaDoorWShare
import Derived.Test.YtonmdifmlpfcpaaDoorWN
import Derived.Test.YtonmdifmlpfcpaaDoorWFootNe
import Derived.Test.YtonmdifmlpfcpaaDoorWAt
import Derived.Test.YtonmdifmlpfcpaaDoorWEqStruct
import Derived.Test.YtonmdifmlpfcpaaDoorWRepsOne
import Derived.Test.YtonmdifmlpfcpaaDoorWInv
import Derived.Test.YtonmdifmlpfcpaaDoorWInvWords
import Derived.Test.YtonmdifmlpfcpaaDoorWGuard
import Derived.Test.YtonmdifmlpfcpaaDoorWNEv
import Derived.Test.YtonmdifmlpfcpaaDoorWMore
import Derived.Test.YtonmdifmlpfcpaaDoorBchk1
import Derived.Test.YtonmdifmlpfcpaaDoorBnamed
import Derived.Test.YtonmdifmlpfcpaaDoorBwa
namespace Go.Proofs.YtonmdifmlpfcpaaDoor.PB
open Go.RowKit Go.Proofs.YtonmdifmlpfcpaaDoorW.PrintWords Go.Proofs.YtonmdifmlpfcpaaDoorW.PrintLast Go.Proofs.YtonmdifmlpfcpaaDoorW.PrintMore
set_option linter.unusedVariables false
set_option linter.unusedSimpArgs false
set_option maxRecDepth 100000
set_option maxHeartbeats 1000000
def lineR : List UInt8 → Nat → Bool → Option Bool
  | [], _, long => some long
  | c :: r, line, long => if c.toNat = 10 ∨ c.toNat = 12 then lineR r 0 long else if 32 ≤ c.toNat ∧ c.toNat ≤ 126 then lineR r (line + 1) (long || decide (200 < line + 1)) else none
def checkR (x : ABk) (bs : List ABk) : Nat :=
  if namedB x.name = false then 8 else if (bs.any fun y => y.name.toList == x.name.toList) = true then 5 else
  match lineR x.text.data.toList 0 false with
  | none => 2
  | some long => if long = true ∨ 1048576 < x.text.size then 3 else 0
theorem check_walk (x : ABk) (bs : List ABk) (a : Option Addr) (cap : Nat) (w : World) (hn : x.name.size ≤ 9223372036854775807) (ht : x.text.size ≤ 9223372036854775807) (hlen : bs.length ≤ 100) (hA : AAt w a bs) (R : Nat) (hR : checkR x bs = R) :
    Calls Tryd.prog 51 #[.agg #[.string x.name, .string x.text, .bool x.write], .slice a bs.length cap] w fun e w' => e = .returned (.int .i64 R) ∧ Below w.heap.size w w' := by
  have HX0 := Aside0.mk ((bxs_nil w).push x.cells 38)
  have HN := Aside0.mk (fun (w1 : World) => named_walk x.name w1 hn _ rfl)
  have HS := Aside0.mk (fun (w1 : World) (hA : AAt w1 a bs) (h : w1.cell? ⟨w.heap.size, 0, none⟩ = some (.string x.name)) => has_same x.name w.heap.size bs a cap w1 hlen hA h)
  have HA := Aside0.mk hA
  have HR := Aside0.mk hR
  have HNS := Aside0.mk hn
  clear hA hR hn
  unfold checkR at HR
  go_enter Tryd.func51, Tryd.ntmps51
  go_wp2_with fail
  refine (HN.out _).mono ?_
  rintro e w1 ⟨rfl, hb⟩
  have HX : Aside0 (Bxs w w1 [(w.heap.size, x.cells, 38)]) := ⟨by have := HX0.out.next (w2 := w1) (by simpa [ABk.cells] using hb); simpa [ABk.cells] using this⟩
  clear HX0 hb
  have HT := Aside0.mk ht
  clear ht
  cases hnm : namedB x.name with
  | false =>
    obtain rfl : 8 = R := by have := HR.out; rw [hnm] at this; simpa using this
    clear hnm
    go_wp2
    go_ret
    exact ⟨rfl, HX.out.b⟩
  | true =>
    rw [hnm] at HR
    clear hnm
    go_wp2_with fail
    refine (HS.out w1 (HA.out.below HX.out.b) ((blk_cell HX.out.get 0).trans rfl)).mono ?_
    rintro e w2 ⟨rfl, hb⟩
    have HX2 := Aside0.mk (HX.out.next hb)
    clear HX hb
    cases hany : bs.any fun y => y.name.toList == x.name.toList with
    | true =>
      obtain rfl : 5 = R := by have := HR.out; rw [hany] at this; simpa using this
      clear hany
      go_wp2
      go_ret
      exact ⟨rfl, HX2.out.b⟩
    | false =>
      have HR2 : Aside0 ((match lineR x.text.data.toList 0 false with | none => 2 | some long => if long = true ∨ 1048576 < x.text.size then 3 else 0) = R) := ⟨by have := HR.out; rw [hany] at this; simpa using this⟩
      clear HR hany
      have z1 : w2.cell? ⟨w.heap.size, 1, none⟩ = some (.string x.text) := (blk_cell HX2.out.get 1).trans rfl
      have hconv := Lib.run_convert_string_bytes (P := Tryd.prog) w2 9 70 5 x.text Tryd.underlying9 Tryd.underlying70 Tryd.underlying5
      have HC : Aside0 (∀ j, j < x.text.size → (Lib.bytesWorld w2 5 x.text).cell? ⟨w2.heap.size, j, none⟩ = some (.int .u8 (x.text.data.toList.getD j 0).toNat)) := ⟨fun j hj => Lib.bytesWorld_cell w2 5 x.text j hj⟩
      have HB : Aside0 (Below w2.heap.size w2 (Lib.bytesWorld w2 5 x.text)) := ⟨⟨rfl, rfl, rfl, by rw [Lib.bytesWorld_size]; omega, fun k hk => Lib.bytesWorld_at_old w2 5 x.text k hk⟩⟩
      have HL : Aside0 (x.text.data.toList.length = x.text.size) := ⟨by simp⟩
      generalize hW : Lib.bytesWorld w2 5 x.text = W at *
      have HW := Aside0.mk hW
      clear hW
      have HX3 := Aside0.mk (HX2.out.next HB.out)
      have zW : W.cell? ⟨w.heap.size, 1, none⟩ = some (.string x.text) := (blk_cell HX3.out.get 1).trans rfl
      have hsz := HT.out
      generalize hRR : lineR x.text.data.toList 0 false = RR at *
      have HRR := Aside0.mk hRR
      clear hRR
      go_wp2
      go_loop [5, 6, 20] (fun l g i => ∃ (k n : Nat) (b : Bool), k ≤ x.text.size ∧ i = .int .i64 k ∧ l = .int .i64 n ∧ g = .bool b ∧ n ≤ k ∧ Aside0 (lineR (x.text.data.toList.drop k) n b = RR)) (fun _ _ i => x.text.size - (intOf i).toNat)
      case atStart => exact ⟨0, 0, false, Nat.zero_le _, rfl, rfl, rfl, Nat.le_refl _, HRR⟩
      case round =>
        obtain ⟨k, n, b, hk, rfl, rfl, rfl, hnk, HK⟩ := hrel
        by_cases hlt : k < x.text.size
        · have hc := HC.out k hlt
          have hd : x.text.data.toList.drop k = x.text.data.toList.getD k 0 :: x.text.data.toList.drop (k + 1) := by
            rw [List.drop_eq_getElem_cons (by rw [HL.out]; exact hlt), List.getD_eq_getElem?_getD, List.getElem?_eq_getElem (by rw [HL.out]; exact hlt)]; rfl
          rw [hd] at HK
          clear hd
          generalize x.text.data.toList.getD k 0 = c at *
          have hc0 : c.toNat ≤ 255 := by have := c.toNat_lt; omega
          unfold lineR at HK
          generalize c.toNat = d at *
          have hn1 : n < 9223372036854775807 := by omega
          by_cases hend : d = 10 ∨ d = 12
          · rw [if_pos hend] at HK
            rcases hend with rfl | rfl
            · go_wp2
              go_round
              case rel => exact ⟨k + 1, 0, b, by omega, by go_num, rfl, rfl, by omega, HK⟩
              case measure => simp [intOf]; omega
            · go_wp2
              go_round
              case rel => exact ⟨k + 1, 0, b, by omega, by go_num, rfl, rfl, by omega, HK⟩
              case measure => simp [intOf]; omega
          · rw [if_neg hend] at HK
            have h10 : ¬ ((d : Int) = 10) := by omega
            have h12 : ¬ ((d : Int) = 12) := by omega
            have b10 : ((d : Int) == 10) = false := beq_eq_false_iff_ne.2 h10
            have b12 : ((d : Int) == 12) = false := beq_eq_false_iff_ne.2 h12
            clear hend h10 h12
            have HPL := Aside0.mk (plain_walk (d : Int) W)
            by_cases hp : 32 ≤ d ∧ d ≤ 126
            · rw [if_pos hp] at HK
              rw [decide_eq_true (show 32 ≤ (d : Int) ∧ (d : Int) ≤ 126 by omega)] at HPL
              cases b with
              | true =>
                go_wp2_with (go_at_call 67; refine HPL.out.mono ?_; rintro e w' ⟨rfl, rfl⟩)
                go_round
                case rel => exact ⟨k + 1, n + 1, true, by omega, by go_num, by go_num, rfl, by omega, HK⟩
                case measure => simp [intOf]; omega
              | false =>
                rw [Bool.false_or] at HK
                by_cases hlong : 200 < n + 1
                · rw [decide_eq_true hlong] at HK
                  have hl' : (200 : Int) < (n : Int) + 1 := by omega
                  go_wp2_with (go_at_call 67; refine HPL.out.mono ?_; rintro e w' ⟨rfl, rfl⟩)
                  go_round
                  case rel => exact ⟨k + 1, n + 1, true, by omega, by go_num, by go_num, by first | rfl | (simp; omega), by omega, HK⟩
                  case measure => simp [intOf]; omega
                · rw [decide_eq_false hlong] at HK
                  have hl' : ¬ (200 : Int) < (n : Int) + 1 := by omega
                  go_wp2_with (go_at_call 67; refine HPL.out.mono ?_; rintro e w' ⟨rfl, rfl⟩)
                  go_round
                  case rel => exact ⟨k + 1, n + 1, false, by omega, by go_num, by go_num, by first | rfl | (simp; omega), by omega, HK⟩
                  case measure => simp [intOf]; omega
            · rw [if_neg hp] at HK
              rw [decide_eq_false (show ¬ (32 ≤ (d : Int) ∧ (d : Int) ≤ 126) by omega)] at HPL
              obtain rfl : 2 = R := by have := HR2.out; rw [← HK.out] at this; exact this
              go_wp2_with (go_at_call 67; refine HPL.out.mono ?_; rintro e w' ⟨rfl, rfl⟩)
              go_ret
              exact ⟨rfl, HX3.out.b⟩
        · obtain rfl : k = x.text.size := by omega
          have hd : x.text.data.toList.drop x.text.size = [] := List.drop_eq_nil_of_le (by rw [HL.out]; exact Nat.le_refl _)
          rw [hd] at HK
          clear hd
          cases b with
          | true =>
            obtain rfl : 3 = R := by have := HR2.out; rw [← HK.out] at this; simpa [lineR] using this
            go_wp2
            go_ret
            exact ⟨rfl, HX3.out.b⟩
          | false =>
            by_cases hbig : 1048576 < x.text.size
            · obtain rfl : 3 = R := by have := HR2.out; rw [← HK.out] at this; simpa [lineR, hbig] using this
              go_wp2
              go_ret
              exact ⟨rfl, HX3.out.b⟩
            · obtain rfl : 0 = R := by have := HR2.out; rw [← HK.out] at this; simpa [lineR, hbig] using this
              go_wp2
              go_ret
              exact ⟨rfl, HX3.out.b⟩
end Go.Proofs.YtonmdifmlpfcpaaDoor.PB
