import Derived.StillTailTactics
import Derived.ArgAppend
import Derived.Below
import Derived.BigQuiet
import Derived.Deep.AppendLies
import Derived.Deep.CutBlock
import Derived.Deep.DeepCutAuto
import Derived.Deep.Draws
import Derived.Deep.LoopGhost
import Derived.Deep.OwnRows
import Derived.Deep.QuietTactic
import Derived.Deep.RegionHeld3
import Derived.KernelRfl
import Derived.Laws.Bits64b
import Derived.Laws.BitsLemmas
import Derived.Laws.BytesArg
import Derived.Laws.Externs
import Derived.Laws.IdiomCopy
import Derived.Laws.MakeOwn
import Derived.Laws.MathBits
import Derived.Laws.OwnMore
import Derived.Laws.Rows
import Derived.Laws.Slices
import Derived.Lib.AppendStr
import Derived.Lib.ConvBytes
import Derived.Maps.AppendAt
import Derived.OrdersHeld
import Derived.OwnWalk
import Derived.RowKit
import Derived.RowKit3
import Derived.Tactics
import Derived.Test.YtonmdifmlpfcpaaDoorProg
import Derived.WalkKit
import Derived.WideLaws
import Derived.Test.YtonmdifmlpfcpaaDoorWWords
import Derived.Test.YtonmdifmlpfcpaaDoorWLast
import Derived.Test.YtonmdifmlpfcpaaDoorWTab
import Derived.Test.YtonmdifmlpfcpaaDoorWFour
import Derived.Test.YtonmdifmlpfcpaaDoorWQPut
import Derived.Test.YtonmdifmlpfcpaaDoorWApart
import Derived.Test.YtonmdifmlpfcpaaDoorWArr
import Derived.Test.YtonmdifmlpfcpaaDoorWZeros
import Derived.Test.YtonmdifmlpfcpaaDoorWFoot
import Derived.Test.YtonmdifmlpfcpaaDoorWKept
import Derived.Test.YtonmdifmlpfcpaaDoorWShare
import Derived.Test.YtonmdifmlpfcpaaDoorWN
import Derived.Test.YtonmdifmlpfcpaaDoorWFootNe
import Derived.Test.YtonmdifmlpfcpaaDoorWAt
import Derived.Test.YtonmdifmlpfcpaaDoorWEqStruct
import Derived.Test.YtonmdifmlpfcpaaDoorWRepsOne
import Derived.Test.YtonmdifmlpfcpaaDoorWInv
import Derived.Test.YtonmdifmlpfcpaaDoorWInvWords
import Derived.Test.YtonmdifmlpfcpaaDoorWGuard
import Derived.Test.YtonmdifmlpfcpaaDoorWNEv
import Derived.Test.YtonmdifmlpfcpaaDoorWMore
import Derived.Test.YtonmdifmlpfcpaaDoorBwa
namespace Go.Proofs.YtonmdifmlpfcpaaDoor.PB
open Go.RowKit Go.Proofs.YtonmdifmlpfcpaaDoorW.PrintWords Go.Proofs.YtonmdifmlpfcpaaDoorW.PrintLast Go.Proofs.YtonmdifmlpfcpaaDoorW.PrintMore
set_option linter.unusedVariables false
set_option linter.unusedSimpArgs false
set_option maxRecDepth 100000
set_option maxHeartbeats 1000000
theorem find_walk {κ : Nat → Tag} {L : Lay} {m : MW} (s : ByteArray) (w : World) (h : WAt κ L w m) (r : Value) (hr : findV L (m.find s) = r) : Calls Tryd.prog 52 #[pt L.p, .string s] w fun e w' => e = .returned r ∧ w = w' := by
  have H := Aside0.mk h
  obtain ⟨⟨z0, z1⟩, _, _⟩ := h.head
  have hrow := h.rowB
  have hlen : m.books.length ≤ 67 := h.ok.bs
  have HR := Aside0.mk hr
  clear h hr
  rcases hrow with ⟨hv, hn⟩ | ⟨g, cap, hv, hc⟩
  · have hm : m.find s = none := by rw [MW.find, hn]; rfl
    rw [hm] at HR
    obtain rfl := HR.out
    clear hn HR hm
    rw [hv] at z0
    unfold pt
    go_enter Tryd.func52, Tryd.ntmps52
    go_wp2
    go_loop [12] (fun i => i = .int .i64 0) (fun i => 0)
    case atStart => rfl
    case round =>
      obtain rfl := hrel
      go_wp2
      go_ret
      exact ⟨rfl, rfl⟩
  · have HC := Aside0.mk hc
    clear hc
    rw [hv] at z0
    unfold pt
    go_enter Tryd.func52, Tryd.ntmps52
    go_wp2
    go_loop [12] (fun i => ∃ k : Nat, k ≤ m.books.length ∧ i = .int .i64 k ∧ Aside0 (∀ j (hj : j < m.books.length), j < k → (m.books[j]).name ≠ s)) (fun i => m.books.length - (intOf i).toNat)
    case atStart => exact ⟨0, Nat.zero_le _, rfl, ⟨fun j _ hj => absurd hj (Nat.not_lt_zero _)⟩⟩
    case round =>
      obtain ⟨k, hk, rfl, HN⟩ := hrel
      by_cases hlt : k < m.books.length
      · have hc1 := HC.out k hlt
        have hf := (H.out.bc (List.getElem_mem hlt)).1.1
        by_cases he : (m.books[k]).name = s
        · have h1 : m.find s = some m.books[k] := find?_at hlt (decide_eq_true he) fun j hj hjk => decide_eq_false (HN.out j hj hjk)
          rw [h1] at HR
          obtain rfl := HR.out
          clear h1 HR
          unfold pt at hc1
          generalize hfk : m.books[k] = b at *
          have HF := Aside0.mk hfk
          clear hfk
          go_wp2
          go_ret
          exact ⟨by rw [HF.out]; rfl, rfl⟩
        · have HE := Aside0.mk he
          have hse := str_ne he
          unfold pt at hc1
          generalize hfk : m.books[k] = b at *
          have HF := Aside0.mk hfk
          clear hfk
          go_wp2
          go_round
          case rel => exact ⟨k + 1, by omega, by go_num, ⟨fun j hj hjk => by
            rcases Nat.lt_or_ge j k with h1 | h1
            · exact HN.out j hj h1
            · obtain rfl : j = k := by omega
              rw [HF.out]; exact HE.out⟩⟩
          case measure => simp [intOf]; omega
      · have hm : m.find s = none := find?_no fun j hj => decide_eq_false (HN.out j hj (by omega))
        rw [hm] at HR
        obtain rfl := HR.out
        clear hm HR
        obtain rfl : k = m.books.length := by omega
        go_wp2
        go_ret
        exact ⟨rfl, rfl⟩
end Go.Proofs.YtonmdifmlpfcpaaDoor.PB
