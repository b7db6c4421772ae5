import Derived.StillTailTactics
import Derived.ArgAppend
import Derived.Below
import Derived.BigQuiet
import Derived.Deep.AppendLies
import Derived.Deep.CutBlock
import Derived.Deep.DeepCutAuto
import Derived.Deep.Draws
import Derived.Deep.LoopGhost
import Derived.Deep.OwnRows
import Derived.Deep.QuietTactic
import Derived.Deep.RegionHeld3
import Derived.KernelRfl
import Derived.Laws.Bits64b
import Derived.Laws.BitsLemmas
import Derived.Laws.BytesArg
import Derived.Laws.Externs
import Derived.Laws.IdiomCopy
import Derived.Laws.MakeOwn
import Derived.Laws.MathBits
import Derived.Laws.OwnMore
import Derived.Laws.Rows
import Derived.Laws.Slices
import Derived.Lib.AppendStr
import Derived.Lib.ConvBytes
import Derived.Maps.AppendAt
import Derived.OrdersHeld
import Derived.OwnWalk
import Derived.RowKit
import Derived.RowKit3
import Derived.Tactics
import Derived.Test.YtonmdifmlpfcpaaDoorProg
import Derived.WalkKit
import Derived.WideLaws
import Derived.Test.YtonmdifmlpfcpaaDoorWWords
import Derived.Test.YtonmdifmlpfcpaaDoorWLast
import Derived.Test.YtonmdifmlpfcpaaDoorWTab
import Derived.Test.YtonmdifmlpfcpaaDoorWFour
import Derived.Test.YtonmdifmlpfcpaaDoorWQPut
import Derived.Test.YtonmdifmlpfcpaaDoorWApart
import Derived.Test.YtonmdifmlpfcpaaDoorWArr
import Derived.Test.YtonmdifmlpfcpaaDoorWZeros
import Derived.Test.YtonmdifmlpfcpaaDoorWFoot
import Derived.Test.YtonmdifmlpfcpaaDoorWKept
import Derived.Test.YtonmdifmlpfcpaaDoorWShare
import Derived.Test.YtonmdifmlpfcpaaDoorWN
import Derived.Test.YtonmdifmlpfcpaaDoorWFootNe
import Derived.Test.YtonmdifmlpfcpaaDoorWAt
import Derived.Test.YtonmdifmlpfcpaaDoorWEqStruct
import Derived.Test.YtonmdifmlpfcpaaDoorWRepsOne
import Derived.Test.YtonmdifmlpfcpaaDoorWInv
import Derived.Test.YtonmdifmlpfcpaaDoorWInvWords
import Derived.Test.YtonmdifmlpfcpaaDoorWGuard
import Derived.Test.YtonmdifmlpfcpaaDoorWNEv
import Derived.Test.YtonmdifmlpfcpaaDoorWMore
import Derived.Test.YtonmdifmlpfcpaaDoorBplace
namespace Go.Proofs.YtonmdifmlpfcpaaDoor.PB
open Go.RowKit Go.Proofs.YtonmdifmlpfcpaaDoorW.PrintWords Go.Proofs.YtonmdifmlpfcpaaDoorW.PrintLast Go.Proofs.YtonmdifmlpfcpaaDoorW.PrintMore
set_option linter.unusedVariables false
set_option linter.unusedSimpArgs false
set_option maxRecDepth 100000
set_option maxHeartbeats 1000000
def beginR (t : List UInt8) : Nat → Nat
  | 0 => 0
  | i + 1 => if (t.getD i 0).toNat = 10 ∨ (t.getD i 0).toNat = 12 then i + 1 else beginR t i
theorem begin_walk {κ : Nat → Tag} {L : Lay} {m : MW} {f : MFl} (w : World) (h : WAt κ L w m) (hf : f ∈ m.files) (r : Nat) (hr : beginR (m.text f) (min f.pos (m.text f).length) = r) : Calls Tryd.prog 46 #[pt (L.fl f.num)] w fun e w' => e = .returned (.int .i64 r) ∧ Rd w w' := by
  have HP := Aside0.mk (place_walk w h hf)
  have H := Aside0.mk h
  clear h
  unfold pt at *
  go_enter Tryd.func46, Tryd.ntmps46
  go_wp2_with fail
  refine HP.out.mono ?_
  rintro e w1 ⟨rfl, hb⟩
  have H1 := H.out.below hb.below
  have HB := Aside0.mk hb
  obtain ⟨z0, z1, z2, z3⟩ := (H1.fc hf).1
  obtain ⟨g, a, cap, hg, hkg, t1, hl, hcl, hcm, hQ⟩ := H1.ft hf
  rw [hg] at z1
  have HQ := Aside0.mk hQ
  have hk : min f.pos (m.text f).length ≤ (m.text f).length := Nat.min_le_right _ _
  clear hb H1 H HP hf hQ hg hkg hcl hcm z0 z2 z3
  generalize m.text f = t at *
  generalize min f.pos t.length = k0 at *
  generalize L.fl f.num = b at *
  have HR := Aside0.mk hr
  clear hr
  go_wp2
  go_loop [3] (fun i => ∃ k : Nat, i = .int .i64 k ∧ k ≤ t.length ∧ Aside0 (beginR t k = r)) (fun i => (intOf i).toNat)
  case atStart => exact ⟨k0, rfl, hk, HR⟩
  case round =>
    obtain ⟨k, rfl, hk1, HK⟩ := hrel
    cases k with
    | zero =>
      obtain rfl := HK.out
      clear HK
      go_wp2
      go_ret
      exact ⟨by first | rfl | go_num, HB.out⟩
    | succ k =>
      obtain ⟨q, rfl, _, hc⟩ := HQ.out k (by omega)
      have hgd : t.getD k 0 = t[k]'(by omega) := by rw [List.getD_eq_getElem?_getD, List.getElem?_eq_getElem (by omega)]; rfl
      unfold beginR at HK
      rw [hgd] at HK
      clear hgd
      generalize t[k]'(by omega) = c at *
      have hc0 : c.toNat ≤ 255 := by have := c.toNat_lt; omega
      generalize c.toNat = d at *
      by_cases h1 : d = 10 ∨ d = 12
      · rw [if_pos h1] at HK
        obtain rfl := HK.out
        clear HK
        rcases h1 with rfl | rfl
        · go_wp2
          go_ret
          exact ⟨by first | rfl | go_num, HB.out⟩
        · go_wp2
          go_ret
          exact ⟨by first | rfl | go_num, HB.out⟩
      · rw [if_neg h1] at HK
        have h10 : ¬ ((d : Int) = 10) := by omega
        have h12 : ¬ ((d : Int) = 12) := by omega
        have b10 : ((d : Int) != 10) = true := bne_iff_ne.2 h10
        have b12 : ((d : Int) != 12) = true := bne_iff_ne.2 h12
        clear h1 h10 h12
        go_wp2
        go_round
        case rel => exact ⟨k, by go_num, by omega, HK⟩
        case measure => simp [intOf]
end Go.Proofs.YtonmdifmlpfcpaaDoor.PB
