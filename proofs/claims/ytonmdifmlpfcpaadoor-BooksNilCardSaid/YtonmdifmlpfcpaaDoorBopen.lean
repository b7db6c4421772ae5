import Derived.StillTailTactics
import Derived.ArgAppend
import Derived.Below
import Derived.BigQuiet
import Derived.Deep.AppendLies
import Derived.Deep.CutBlock
import Derived.Deep.DeepCutAuto
import Derived.Deep.Draws
import Derived.Deep.LoopGhost
import Derived.Deep.OwnRows
import Derived.Deep.QuietTactic
import Derived.Deep.RegionHeld3
import Derived.KernelRfl
import Derived.Laws.Bits64b
import Derived.Laws.BitsLemmas
import Derived.Laws.BytesArg
import Derived.Laws.Externs
import Derived.Laws.IdiomCopy
import Derived.Laws.MakeOwn
import Derived.Laws.MathBits
import Derived.Laws.OwnMore
import Derived.Laws.Rows
import Derived.Laws.Slices
import Derived.Lib.AppendStr
import Derived.Lib.ConvBytes
import Derived.Maps.AppendAt
import Derived.OrdersHeld
import Derived.OwnWalk
import Derived.RowKit
import Derived.RowKit3
import Derived.Tactics
import Derived.Test.YtonmdifmlpfcpaaDoorProg
import Derived.WalkKit
import Derived.WideLaws
import Derived.Lib.Walk
import Derived.Lib.SliceRun
import Derived.Lib.JoinLaws
import Derived.Lib.AppendZeros
import Derived.Lib.Overlaps
import Derived.Lib.AppendZerosOnto
import Derived.Shelf.RegionOpenPlain
import Derived.Shelf.Spec.SlicesInsert
import Derived.Deep.RegionLaw
import Derived.Test.YtonmdifmlpfcpaaDoorWWords
import Derived.Test.YtonmdifmlpfcpaaDoorWLast
import Derived.Test.YtonmdifmlpfcpaaDoorWTab
import Derived.Test.YtonmdifmlpfcpaaDoorWFour
import Derived.Test.YtonmdifmlpfcpaaDoorWQPut
import Derived.Test.YtonmdifmlpfcpaaDoorWApart
import Derived.Test.YtonmdifmlpfcpaaDoorWArr
import Derived.Test.YtonmdifmlpfcpaaDoorWZeros
import Derived.Test.YtonmdifmlpfcpaaDoorWFoot
import Derived.Test.YtonmdifmlpfcpaaDoorWKept
import Derived.Test.YtonmdifmlpfcpaaDoorWShare
import Derived.Test.YtonmdifmlpfcpaaDoorWN
import Derived.Test.YtonmdifmlpfcpaaDoorWFootNe
import Derived.Test.YtonmdifmlpfcpaaDoorWAt
import Derived.Test.YtonmdifmlpfcpaaDoorWEqStruct
import Derived.Test.YtonmdifmlpfcpaaDoorWRepsOne
import Derived.Test.YtonmdifmlpfcpaaDoorWInv
import Derived.Test.YtonmdifmlpfcpaaDoorWInvWords
import Derived.Test.YtonmdifmlpfcpaaDoorWGuard
import Derived.Test.YtonmdifmlpfcpaaDoorWNEv
import Derived.Test.YtonmdifmlpfcpaaDoorWMore
import Derived.Test.YtonmdifmlpfcpaaDoorBaddw
import Derived.Test.YtonmdifmlpfcpaaDoorBfind
namespace Go.Proofs.YtonmdifmlpfcpaaDoor.PB
open Go.RowKit Go.Proofs.YtonmdifmlpfcpaaDoorW.PrintWords Go.Proofs.YtonmdifmlpfcpaaDoorW.PrintLast Go.Proofs.YtonmdifmlpfcpaaDoorW.PrintMore
set_option linter.unusedVariables false
set_option linter.unusedSimpArgs false
set_option maxRecDepth 100000
set_option maxHeartbeats 1000000
def MW.openB (m : MW) (s : ByteArray) : MW × Int × Int :=
  match m.find s with
  | none => (m, 0, 4)
  | some b => if 20 ≤ m.files.length then (m, 0, 30) else (m.addF b.id, m.addN, 0)
theorem addF_mem {m : MW} (h : m.ok) (id : Nat) : freshF m.addN id ∈ (m.addF id).files := by
  obtain ⟨l1, l2, e1, e2, _⟩ := add_split h id
  rw [e2]
  exact List.mem_append_right _ (List.mem_cons_self ..)
theorem open_walk {κ : Nat → Tag} {L : Lay} {m m' : MW} (s : ByteArray) (w : World) (h : WAt κ L w m) (n e : Int) (hr : m.openB s = (m', n, e)) :
    Calls Tryd.prog 24 #[pt L.p, .string s] w fun x w' => x = .returned (.tuple #[.int .i64 n, .int .i64 e]) ∧ ∃ κ' L', L'.p = L.p ∧ St κ w κ' L' w' m' := by
  have H := Aside0.mk h
  have HF := Aside0.mk (find_walk s w h _ rfl)
  obtain ⟨⟨z0, z1⟩, _, _⟩ := h.head
  have hfl : ∃ a cap, L.vf = .slice a m.files.length cap := by
    rcases row_cases h.rf with ⟨h1, h2⟩ | ⟨g, cap, h1, _⟩
    · exact ⟨none, 0, by rw [h1, h2]⟩
    · exact ⟨_, cap, h1⟩
  obtain ⟨a, cap, hv⟩ := hfl
  rw [hv] at z1
  have hl20 := h.ok.fs
  unfold MW.openB at hr
  unfold pt at *
  cases hfind : m.find s with
  | none =>
    rw [hfind] at hr
    have HF' : Aside0 (Calls Tryd.prog 52 #[.pointer (some ⟨L.p, 0, none⟩), .string s] w fun e w' => e = .returned (.pointer none) ∧ w = w') := ⟨by have := HF.out; rw [hfind] at this; exact this⟩
    simp only [Prod.mk.injEq] at hr
    obtain ⟨rfl, rfl, rfl⟩ := hr
    clear h hfind HF
    go_enter Tryd.func24, Tryd.ntmps24
    go_wp2_with (go_at_call 52; refine HF'.out.mono ?_; rintro e w' ⟨rfl, rfl⟩)
    go_ret2
    exact ⟨rfl, κ, L, rfl, H.out.st⟩
  | some b =>
    rw [hfind] at hr
    have HF' : Aside0 (Calls Tryd.prog 52 #[.pointer (some ⟨L.p, 0, none⟩), .string s] w fun e w' => e = .returned (.pointer (some ⟨L.bk b.id, 0, none⟩)) ∧ w = w') := ⟨by have := HF.out; rw [hfind] at this; exact this⟩
    obtain ⟨hb, _⟩ := MW.find_mem hfind
    by_cases hl : 20 ≤ m.files.length
    · simp only [if_pos hl, Prod.mk.injEq] at hr
      obtain ⟨rfl, rfl, rfl⟩ := hr
      clear h hfind HF hb
      go_enter Tryd.func24, Tryd.ntmps24
      go_wp2_with (go_at_call 52; refine HF'.out.mono ?_; rintro e w' ⟨rfl, rfl⟩)
      go_ret2
      exact ⟨rfl, κ, L, rfl, H.out.st⟩
    · simp only [if_neg hl, Prod.mk.injEq] at hr
      obtain ⟨rfl, rfl, rfl⟩ := hr
      have HA := Aside0.mk (add_walk w h hb (by omega))
      unfold pt at HA
      have hmem := Aside0.mk (addF_mem h.ok b.id)
      clear h hfind HF hb
      go_enter Tryd.func24, Tryd.ntmps24
      go_wp2_with (go_at_call 52; refine HF'.out.mono ?_; rintro e w' ⟨rfl, rfl⟩)
      refine HA.out.mono ?_
      rintro e w' ⟨κ', L', hp, _, _, _, rfl, hst⟩
      have HS := Aside0.mk hst
      have zn : w'.cell? ⟨L'.fl m.addN, 0, none⟩ = some (.int .i64 m.addN) := (hst.1.fc hmem.out).1.1
      clear hst
      go_wp2
      go_ret2
      exact ⟨rfl, κ', L', hp, HS.out⟩
end Go.Proofs.YtonmdifmlpfcpaaDoor.PB
