import Derived.StillTailTactics
import Derived.ArgAppend
import Derived.Below
import Derived.BigQuiet
import Derived.Deep.AppendLies
import Derived.Deep.CutBlock
import Derived.Deep.DeepCutAuto
import Derived.Deep.Draws
import Derived.Deep.LoopGhost
import Derived.Deep.OwnRows
import Derived.Deep.QuietTactic
import Derived.Deep.RegionHeld3
import Derived.KernelRfl
import Derived.Laws.Bits64b
import Derived.Laws.BitsLemmas
import Derived.Laws.BytesArg
import Derived.Laws.Externs
import Derived.Laws.IdiomCopy
import Derived.Laws.MakeOwn
import Derived.Laws.MathBits
import Derived.Laws.OwnMore
import Derived.Laws.Rows
import Derived.Laws.Slices
import Derived.Lib.AppendStr
import Derived.Lib.ConvBytes
import Derived.Maps.AppendAt
import Derived.OrdersHeld
import Derived.OwnWalk
import Derived.RowKit
import Derived.RowKit3
import Derived.Tactics
import Derived.Test.YtonmdifmlpfcpaaDoorProg
import Derived.WalkKit
import Derived.WideLaws
import Derived.Test.YtonmdifmlpfcpaaDoorWWords
import Derived.Test.YtonmdifmlpfcpaaDoorWLast
import Derived.Test.YtonmdifmlpfcpaaDoorWTab
import Derived.Test.YtonmdifmlpfcpaaDoorWFour
import Derived.Test.YtonmdifmlpfcpaaDoorWQPut
import Derived.Test.YtonmdifmlpfcpaaDoorWApart
import Derived.Test.YtonmdifmlpfcpaaDoorWArr
import Derived.Test.YtonmdifmlpfcpaaDoorWZeros
import Derived.Test.YtonmdifmlpfcpaaDoorWFoot
import Derived.Test.YtonmdifmlpfcpaaDoorWKept
import Derived.Test.YtonmdifmlpfcpaaDoorWShare
import Derived.Test.YtonmdifmlpfcpaaDoorWN
import Derived.Test.YtonmdifmlpfcpaaDoorWFootNe
import Derived.Test.YtonmdifmlpfcpaaDoorWAt
import Derived.Test.YtonmdifmlpfcpaaDoorWEqStruct
import Derived.Test.YtonmdifmlpfcpaaDoorWRepsOne
import Derived.Test.YtonmdifmlpfcpaaDoorWInv
import Derived.Test.YtonmdifmlpfcpaaDoorWInvWords
import Derived.Test.YtonmdifmlpfcpaaDoorWGuard
import Derived.Test.YtonmdifmlpfcpaaDoorWNEv
import Derived.Test.YtonmdifmlpfcpaaDoorWMore
import Derived.Test.YtonmdifmlpfcpaaDoorBbegin
import Derived.Test.YtonmdifmlpfcpaaDoorBfile
namespace Go.Proofs.YtonmdifmlpfcpaaDoor.PB
open Go.RowKit Go.Proofs.YtonmdifmlpfcpaaDoorW.PrintWords Go.Proofs.YtonmdifmlpfcpaaDoorW.PrintLast Go.Proofs.YtonmdifmlpfcpaaDoorW.PrintMore
set_option linter.unusedVariables false
set_option linter.unusedSimpArgs false
set_option maxRecDepth 100000
set_option maxHeartbeats 1000000
def posR : List UInt8 → Nat → Nat → Nat × Nat
  | [], p, l => (p, l)
  | c :: r, p, l => if c.toNat = 12 then posR r (p + 1) 1 else if c.toNat = 10 then posR r p (l + 1) else posR r p l
def MW.position (m : MW) (n : Int) : Int × Int × Int × Int :=
  match m.file n with
  | none => (0, 0, 0, 29)
  | some f => ((posR ((m.text f).take (min f.pos (m.text f).length)) 1 1).1, (posR ((m.text f).take (min f.pos (m.text f).length)) 1 1).2,
      ((min f.pos (m.text f).length - beginR (m.text f) (min f.pos (m.text f).length) + 1 : Nat) : Int), 0)
theorem beginR_le (t : List UInt8) : ∀ i, beginR t i ≤ i
  | 0 => Nat.le_refl _
  | i + 1 => by
    unfold beginR
    split
    · exact Nat.le_refl _
    · exact Nat.le_succ_of_le (beginR_le t i)
theorem position_walk {κ : Nat → Tag} {L : Lay} {m : MW} (n : Int) (w : World) (h : WAt κ L w m) (p l c e : Int) (hr : m.position n = (p, l, c, e)) : Calls Tryd.prog 15 #[pt L.p, .int .i64 n] w fun x w' => x = .returned (.tuple #[.int .i64 p, .int .i64 l, .int .i64 c, .int .i64 e]) ∧ Rd w w' := by
  have H := Aside0.mk h
  unfold MW.position at hr
  unfold pt at *
  cases hfile : m.file n with
  | none =>
    have HF := Aside0.mk (file_none h hfile)
    rw [hfile] at hr
    simp only [Prod.mk.injEq] at hr
    obtain ⟨rfl, rfl, rfl, rfl⟩ := hr
    clear h hfile
    go_enter Tryd.func15, Tryd.ntmps15
    go_wp2_with (go_at_call 44; refine HF.out.mono ?_; rintro e w' ⟨rfl, rfl⟩)
    refine bodyPost_ret (v := .tuple #[.int .i64 0, .int .i64 0, .int .i64 0, .int .i64 29]) (by simp [results, Tryd.results15, go_sem]) rfl ⟨rfl, Rd.refl _⟩
  | some f =>
    have HF := Aside0.mk (file_some h hfile)
    rw [hfile] at hr
    obtain ⟨hf, hnum⟩ := MW.file_mem hfile
    simp only [Prod.mk.injEq] at hr
    obtain ⟨z0, z1, z2, z3⟩ := (h.fc hf).1
    obtain ⟨g, a, cap, hg, hkg, t1, hl, hcl, hcm, hQ⟩ := h.ft hf
    rw [hg] at z1
    have HQ := Aside0.mk hQ
    have HP := Aside0.mk (fun (w1 : World) (hr : Rd w w1) => place_walk w1 (h.below hr.below) hf)
    have HG := Aside0.mk (fun (w1 : World) (hr : Rd w w1) => begin_walk w1 (h.below hr.below) hf _ rfl)
    have hkk : min f.pos (m.text f).length ≤ (m.text f).length := Nat.min_le_right _ _
    have hbl := beginR_le (m.text f) (min f.pos (m.text f).length)
    unfold pt at HP HG
    clear h hfile hf hnum hg hkg hQ z0 z2 z3
    have HR := Aside0.mk hr
    clear hr
    generalize m.text f = t at *
    generalize min f.pos t.length = k0 at *
    generalize beginR t k0 = k1 at *
    generalize L.fl f.num = b at *
    have hkc : k0 ≤ cap := Nat.le_trans hkk hcl
    have hcm2 : cap ≤ 9223372036854775807 := hcm
    generalize hRR : posR (t.take k0) 1 1 = R at *
    have HRR := Aside0.mk hRR
    clear hRR
    go_enter Tryd.func15, Tryd.ntmps15
    cases a with
    | none =>
      have ht0 : t.length = 0 := by
        rcases Nat.eq_zero_or_pos t.length with h0 | h0
        · exact h0
        · obtain ⟨q, hq, _⟩ := HQ.out 0 h0
          exact absurd hq (fun h => by cases h)
      obtain rfl : k0 = 0 := by omega
      obtain rfl : k1 = 0 := by omega
      obtain rfl := HRR.out
      clear HRR
      obtain ⟨rfl, rfl, rfl, rfl⟩ := HR.out
      clear HR HQ
      go_wp2_with (go_at_call 44; refine HF.out.mono ?_; rintro e w' ⟨rfl, rfl⟩)
      go_quiet ((go_at_call 45; exact quiet_rd (HP.out _ ⟨_, rfl⟩)))
      go_wp2
      go_loop [4, 5, 31] (fun P L i => P = .int .i64 1 ∧ L = .int .i64 1 ∧ i = .int .i64 0) (fun _ _ _ => 0)
      case atStart => exact ⟨rfl, rfl, rfl⟩
      case round =>
        obtain ⟨rfl, rfl, rfl⟩ := hrel
        go_wp2_with (first | (go_at_call 45; refine (HP.out _ ⟨_, rfl⟩).mono ?_; rintro e w1 ⟨rfl, hr1⟩) | (go_at_call 46; refine (HG.out _ (Rd.trans ⟨_, rfl⟩ hr1)).mono ?_; rintro e w2 ⟨rfl, hr2⟩))
        refine bodyPost_ret (v := .tuple #[.int .i64 1, .int .i64 1, .int .i64 1, .int .i64 0]) (by simp [results, Tryd.results15, go_sem]) rfl ⟨by simp [posR], Rd.trans ⟨_, rfl⟩ (hr1.trans hr2)⟩
    | some a =>
      go_wp2_with (go_at_call 44; refine HF.out.mono ?_; rintro e w' ⟨rfl, rfl⟩)
      go_quiet ((go_at_call 45; exact quiet_rd (HP.out _ ⟨_, rfl⟩)))
      go_wp2
      go_loop [4, 5, 31] (fun P L i => ∃ (k P' L' : Nat), i = .int .i64 k ∧ P = .int .i64 P' ∧ L = .int .i64 L' ∧ k ≤ k0 ∧ P' ≤ k + 1 ∧ L' ≤ k + 1 ∧ Aside0 (posR ((t.take k0).drop k) P' L' = R)) (fun _ _ i => k0 - (intOf i).toNat)
      case atStart => exact ⟨0, 1, 1, rfl, rfl, rfl, by omega, by omega, by omega, HRR⟩
      case round =>
        obtain ⟨k, P, L', rfl, rfl, rfl, hk, hP, hL, HK⟩ := hrel
        by_cases hlt : k < k0
        · obtain ⟨q, hq, _, hc⟩ := HQ.out k (by omega)
          obtain rfl : a = ⟨q, 0, none⟩ := Option.some.inj hq
          clear hq
          have hd : (t.take k0).drop k = t[k]'(by omega) :: (t.take k0).drop (k + 1) := by
            rw [List.drop_eq_getElem_cons (by rw [List.length_take]; omega), List.getElem_take]
          rw [hd] at HK
          clear hd
          generalize t[k]'(by omega) = ch at *
          have hc0 : ch.toNat ≤ 255 := by have := ch.toNat_lt; omega
          unfold posR at HK
          generalize ch.toNat = d at *
          by_cases h12 : d = 12
          · subst h12
            rw [if_pos rfl] at HK
            go_wp2
            go_round
            case rel => exact ⟨k + 1, P + 1, 1, by go_num, by go_num, rfl, by omega, by omega, by omega, HK⟩
            case measure => simp [intOf]; omega
          · rw [if_neg h12] at HK
            have h12' : ¬ ((d : Int) = 12) := by omega
            by_cases h10 : d = 10
            · subst h10
              rw [if_pos rfl] at HK
              go_wp2
              go_round
              case rel => exact ⟨k + 1, P, L' + 1, by go_num, rfl, by go_num, by omega, by omega, by omega, HK⟩
              case measure => simp [intOf]; omega
            · rw [if_neg h10] at HK
              have h10' : ¬ ((d : Int) = 10) := by omega
              go_wp2
              go_round
              case rel => exact ⟨k + 1, P, L', by go_num, rfl, rfl, by omega, by omega, by omega, HK⟩
              case measure => simp [intOf]; omega
        · obtain rfl : k = k0 := by omega
          have hd : (t.take k).drop k = [] := List.drop_eq_nil_of_le (by rw [List.length_take]; omega)
          rw [hd] at HK
          unfold posR at HK
          obtain rfl := HK.out
          clear HK hd HRR
          obtain ⟨rfl, rfl, rfl, rfl⟩ := HR.out
          clear HR
          go_wp2_with (first | (go_at_call 45; refine (HP.out _ ⟨_, rfl⟩).mono ?_; rintro e w1 ⟨rfl, hr1⟩) | (go_at_call 46; refine (HG.out _ (Rd.trans ⟨_, rfl⟩ hr1)).mono ?_; rintro e w2 ⟨rfl, hr2⟩))
          refine bodyPost_ret (v := .tuple #[.int .i64 P, .int .i64 L', .int .i64 (k - k1 + 1 : Nat), .int .i64 0]) (by simp [results, Tryd.results15, go_sem]; omega) rfl ⟨rfl, Rd.trans ⟨_, rfl⟩ (hr1.trans hr2)⟩
end Go.Proofs.YtonmdifmlpfcpaaDoor.PB
