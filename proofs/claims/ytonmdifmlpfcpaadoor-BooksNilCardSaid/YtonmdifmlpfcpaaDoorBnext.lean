import Derived.StillTailTactics
import Derived.ArgAppend
import Derived.Below
import Derived.BigQuiet
import Derived.Deep.AppendLies
import Derived.Deep.CutBlock
import Derived.Deep.DeepCutAuto
import Derived.Deep.Draws
import Derived.Deep.LoopGhost
import Derived.Deep.OwnRows
import Derived.Deep.QuietTactic
import Derived.Deep.RegionHeld3
import Derived.KernelRfl
import Derived.Laws.Bits64b
import Derived.Laws.BitsLemmas
import Derived.Laws.BytesArg
import Derived.Laws.Externs
import Derived.Laws.IdiomCopy
import Derived.Laws.MakeOwn
import Derived.Laws.MathBits
import Derived.Laws.OwnMore
import Derived.Laws.Rows
import Derived.Laws.Slices
import Derived.Lib.AppendStr
import Derived.Lib.ConvBytes
import Derived.Maps.AppendAt
import Derived.OrdersHeld
import Derived.OwnWalk
import Derived.RowKit
import Derived.RowKit3
import Derived.Tactics
import Derived.Test.YtonmdifmlpfcpaaDoorProg
import Derived.WalkKit
import Derived.WideLaws
import Derived.Test.YtonmdifmlpfcpaaDoorWWords
import Derived.Test.YtonmdifmlpfcpaaDoorWLast
import Derived.Test.YtonmdifmlpfcpaaDoorWTab
import Derived.Test.YtonmdifmlpfcpaaDoorWFour
import Derived.Test.YtonmdifmlpfcpaaDoorWQPut
import Derived.Test.YtonmdifmlpfcpaaDoorWApart
import Derived.Test.YtonmdifmlpfcpaaDoorWArr
import Derived.Test.YtonmdifmlpfcpaaDoorWZeros
import Derived.Test.YtonmdifmlpfcpaaDoorWFoot
import Derived.Test.YtonmdifmlpfcpaaDoorWKept
import Derived.Test.YtonmdifmlpfcpaaDoorWShare
import Derived.Test.YtonmdifmlpfcpaaDoorWN
import Derived.Test.YtonmdifmlpfcpaaDoorWFootNe
import Derived.Test.YtonmdifmlpfcpaaDoorWAt
import Derived.Test.YtonmdifmlpfcpaaDoorWEqStruct
import Derived.Test.YtonmdifmlpfcpaaDoorWRepsOne
import Derived.Test.YtonmdifmlpfcpaaDoorWInv
import Derived.Test.YtonmdifmlpfcpaaDoorWInvWords
import Derived.Test.YtonmdifmlpfcpaaDoorWGuard
import Derived.Test.YtonmdifmlpfcpaaDoorWNEv
import Derived.Test.YtonmdifmlpfcpaaDoorWMore
import Derived.Test.YtonmdifmlpfcpaaDoorBplace
namespace Go.Proofs.YtonmdifmlpfcpaaDoor.PB
open Go.RowKit Go.Proofs.YtonmdifmlpfcpaaDoorW.PrintWords Go.Proofs.YtonmdifmlpfcpaaDoorW.PrintLast Go.Proofs.YtonmdifmlpfcpaaDoorW.PrintMore
set_option linter.unusedVariables false
set_option linter.unusedSimpArgs false
set_option maxRecDepth 100000
set_option maxHeartbeats 1000000
theorem u8_12 (c : UInt8) : ((c.toNat : Int) == 12) = decide (c.toNat = 12) := by
  by_cases h : c.toNat = 12
  · rw [h]; rfl
  · rw [decide_eq_false h]; exact beq_eq_false_iff_ne.2 (by omega)
theorem next_walk {κ : Nat → Tag} {L : Lay} {m : MW} {f : MFl} (w : World) (h : WAt κ L w m) (hf : f ∈ m.files) (at_ : Nat) (ha : at_ ≤ 1048576) (p e : Nat) (hr : nextR f.fl ((m.text f).drop at_) at_ = (p, e)) : Calls Tryd.prog 75 #[pt (L.fl f.num), .int .i64 at_] w fun e' w' => e' = .returned (.tuple #[.int .i64 p, .int .i64 e]) ∧ w = w' := by
  have H := Aside0.mk h
  have HF := Aside0.mk hf
  obtain ⟨z0, z1, z2, z3⟩ := (h.fc hf).1
  obtain ⟨g, a, cap, hg, hkg, t1, hl, hcl, hcm, hQ⟩ := h.ft hf
  rw [hg] at z1
  have HQ := Aside0.mk hQ
  have HR := Aside0.mk hr
  have HT1 := Aside0.mk (tell_walk (L := L) 1 w h hf (by omega))
  have HT2 := Aside0.mk (tell_walk (L := L) 2 w h hf (by omega))
  clear h hf hg hQ hr z0 z2 z3 hkg hcl hcm
  unfold pt at *
  generalize m.text f = t at *
  generalize L.fl f.num = b at *
  go_enter Tryd.func75, Tryd.ntmps75
  go_wp2
  go_loop [1] (fun i => ∃ k : Nat, i = .int .i64 k ∧ k ≤ 1048576 ∧ Aside0 (nextR f.fl (t.drop k) k = (p, e))) (fun i => 1048576 - (intOf i).toNat)
  case atStart => exact ⟨at_, rfl, ha, HR⟩
  case round =>
    obtain ⟨k, rfl, hk, HN⟩ := hrel
    by_cases hlt : k < t.length
    · obtain ⟨q, rfl, _, hc⟩ := HQ.out k hlt
      have hd : t.drop k = t[k] :: t.drop (k + 1) := List.drop_eq_getElem_cons hlt
      rw [hd] at HN
      clear hd
      generalize t[k] = c at *
      have hc0 : 0 ≤ c.toNat ∧ c.toNat ≤ 255 := ⟨Nat.zero_le _, by have := c.toNat_lt; omega⟩
      unfold nextR at HN
      generalize c.toNat = d at *
      by_cases h12 : d = 12
      · subst h12
        rw [if_pos rfl] at HN
        cases hfl : f.fl 1 with
        | true =>
          rw [hfl] at HN HT1
          go_wp2_with (go_at_call 65; refine HT1.out.mono ?_; rintro e w' ⟨rfl, rfl⟩)
          go_round
          case rel => exact ⟨k + 1, by go_num, by omega, ⟨by have := HN.out; simpa using this⟩⟩
          case measure => simp [intOf]; omega
        | false =>
          rw [hfl] at HN HT1
          obtain ⟨rfl, rfl⟩ : p = 0 ∧ e = 22 := by have := HN.out; simp at this; omega
          go_wp2_with (go_at_call 65; refine HT1.out.mono ?_; rintro e w' ⟨rfl, rfl⟩)
          go_ret2
          exact ⟨rfl, rfl⟩
      · have h12' : ¬ ((d : Int) = 12) := by omega
        rw [if_neg h12] at HN
        by_cases h10 : d = 10
        · subst h10
          rw [if_pos rfl] at HN
          cases hfl : f.fl 2 with
          | true =>
            rw [hfl] at HN HT2
            go_wp2_with (go_at_call 65; refine HT2.out.mono ?_; rintro e w' ⟨rfl, rfl⟩)
            go_round
            case rel => exact ⟨k + 1, by go_num, by omega, ⟨by have := HN.out; simpa using this⟩⟩
            case measure => simp [intOf]; omega
          | false =>
            rw [hfl] at HN HT2
            obtain ⟨rfl, rfl⟩ : p = 0 ∧ e = 22 := by have := HN.out; simp at this; omega
            go_wp2_with (go_at_call 65; refine HT2.out.mono ?_; rintro e w' ⟨rfl, rfl⟩)
            go_ret2
            exact ⟨rfl, rfl⟩
        · have h10' : ¬ ((d : Int) = 10) := by omega
          rw [if_neg h10] at HN
          obtain ⟨rfl, rfl⟩ : k = p ∧ e = 0 := by have := HN.out; simp at this; omega
          go_wp2
          go_ret2
          exact ⟨rfl, rfl⟩
    · have hd : t.drop k = [] := List.drop_eq_nil_of_le (by omega)
      rw [hd] at HN
      obtain ⟨rfl, rfl⟩ : p = 0 ∧ e = 22 := by have := HN.out; simp [nextR] at this; omega
      clear hd
      go_wp2
      go_ret2
      exact ⟨rfl, rfl⟩
end Go.Proofs.YtonmdifmlpfcpaaDoor.PB
