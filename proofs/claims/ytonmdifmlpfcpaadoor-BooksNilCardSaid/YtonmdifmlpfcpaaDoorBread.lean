import Derived.StillTailTactics
import Derived.ArgAppend
import Derived.Below
import Derived.BigQuiet
import Derived.Deep.AppendLies
import Derived.Deep.CutBlock
import Derived.Deep.DeepCutAuto
import Derived.Deep.Draws
import Derived.Deep.LoopGhost
import Derived.Deep.OwnRows
import Derived.Deep.QuietTactic
import Derived.Deep.RegionHeld3
import Derived.KernelRfl
import Derived.Laws.Bits64b
import Derived.Laws.BitsLemmas
import Derived.Laws.BytesArg
import Derived.Laws.Externs
import Derived.Laws.IdiomCopy
import Derived.Laws.MakeOwn
import Derived.Laws.MathBits
import Derived.Laws.OwnMore
import Derived.Laws.Rows
import Derived.Laws.Slices
import Derived.Lib.AppendStr
import Derived.Lib.ConvBytes
import Derived.Maps.AppendAt
import Derived.OrdersHeld
import Derived.OwnWalk
import Derived.RowKit
import Derived.RowKit3
import Derived.Tactics
import Derived.Test.YtonmdifmlpfcpaaDoorProg
import Derived.WalkKit
import Derived.WideLaws
import Derived.Test.YtonmdifmlpfcpaaDoorWWords
import Derived.Test.YtonmdifmlpfcpaaDoorWLast
import Derived.Test.YtonmdifmlpfcpaaDoorWTab
import Derived.Test.YtonmdifmlpfcpaaDoorWFour
import Derived.Test.YtonmdifmlpfcpaaDoorWQPut
import Derived.Test.YtonmdifmlpfcpaaDoorWApart
import Derived.Test.YtonmdifmlpfcpaaDoorWArr
import Derived.Test.YtonmdifmlpfcpaaDoorWZeros
import Derived.Test.YtonmdifmlpfcpaaDoorWFoot
import Derived.Test.YtonmdifmlpfcpaaDoorWKept
import Derived.Test.YtonmdifmlpfcpaaDoorWShare
import Derived.Test.YtonmdifmlpfcpaaDoorWN
import Derived.Test.YtonmdifmlpfcpaaDoorWFootNe
import Derived.Test.YtonmdifmlpfcpaaDoorWAt
import Derived.Test.YtonmdifmlpfcpaaDoorWEqStruct
import Derived.Test.YtonmdifmlpfcpaaDoorWRepsOne
import Derived.Test.YtonmdifmlpfcpaaDoorWInv
import Derived.Test.YtonmdifmlpfcpaaDoorWInvWords
import Derived.Test.YtonmdifmlpfcpaaDoorWGuard
import Derived.Test.YtonmdifmlpfcpaaDoorWNEv
import Derived.Test.YtonmdifmlpfcpaaDoorWMore
import Derived.Test.YtonmdifmlpfcpaaDoorBfile
import Derived.Test.YtonmdifmlpfcpaaDoorBnext
namespace Go.Proofs.YtonmdifmlpfcpaaDoor.PB
open Go.RowKit Go.Proofs.YtonmdifmlpfcpaaDoorW.PrintWords Go.Proofs.YtonmdifmlpfcpaaDoorW.PrintLast Go.Proofs.YtonmdifmlpfcpaaDoorW.PrintMore
set_option linter.unusedVariables false
set_option linter.unusedSimpArgs false
set_option maxRecDepth 100000
set_option maxHeartbeats 1000000
def MW.read (m : MW) (n : Int) (mv : Bool) : MW × Int × Int :=
  match m.file n with
  | none => (m, 0, 29)
  | some f => if n = 2 then (m, 0, 31) else
    match nextR f.fl ((m.text f).drop f.pos) f.pos with
    | (p, 0) => (m.setF { f with pos := if mv then p + 1 else p, mood := 1 }, (((m.text f).getD p 0).toNat : Int), 0)
    | (_, e + 1) => (m, 0, (e + 1 : Nat))
theorem nextR_lt (fl : Nat → Bool) : ∀ (l : List UInt8) (i p : Nat), nextR fl l i = (p, 0) → i ≤ p ∧ p < i + l.length
  | [], i, p, h => by simp [nextR] at h
  | c :: r, i, p, h => by
    unfold nextR at h
    have ih := nextR_lt fl r (i + 1) p
    rw [List.length_cons]
    split at h
    · split at h
      · have := ih h; omega
      · simp at h
    · split at h
      · split at h
        · have := ih h; omega
        · simp at h
      · simp at h; omega
theorem setF_setF (m : MW) (f g : MFl) (e : f.num = g.num) : (m.setF f).setF g = m.setF g := by
  unfold MW.setF
  simp only [List.map_map]
  congr 1
  refine List.map_congr_left fun x _ => ?_
  show (if (if x.num = f.num then f else x).num = g.num then g else (if x.num = f.num then f else x)) = if x.num = g.num then g else x
  by_cases h : x.num = f.num
  · rw [if_pos h, if_pos e, if_pos (h.trans e)]
  · rw [if_neg h]
/-- place and mood of a file are stored -/
theorem WAt.put23 {κ : Nat → Tag} {L : Lay} {w : World} {m : MW} (h : WAt κ L w m) {f : MFl} (hf : f ∈ m.files) (p q : Nat) (hp : p ≤ 1048576) :
    St κ w κ L ((w.setCell ⟨L.fl f.num, 2, none⟩ (.int .i64 p)).setCell ⟨L.fl f.num, 3, none⟩ (.int .i64 q)) (m.setF { f with pos := p, mood := q }) := by
  have hc := blk_put (blk_put (h.hf f hf) 2 (.int .i64 (p : Int)) (cs' := L.fcells { f with pos := p }) rfl) 3 (.int .i64 (q : Int)) (cs' := L.fcells { f with pos := p, mood := q }) rfl
  have ho : ∀ k, k ≠ L.fl f.num → ((w.setCell ⟨L.fl f.num, 2, none⟩ (.int .i64 p)).setCell ⟨L.fl f.num, 3, none⟩ (.int .i64 q)).heap[k]? = w.heap[k]? := fun k hk => (Below.heap_setCell _ _ _ _ hk).trans (Below.heap_setCell _ _ _ _ hk)
  have hs : ((w.setCell ⟨L.fl f.num, 2, none⟩ (.int .i64 p)).setCell ⟨L.fl f.num, 3, none⟩ (.int .i64 q)).heap.size = w.heap.size := by simp [World.setCell]
  exact ⟨h.setF hf rfl rfl hp hc ho hs, Nx.set (g := L.fl f.num) (by rw [h.kf f hf]; exact Tag.noConfusion) rfl rfl rfl ho hs⟩
theorem WAt.put2 {κ : Nat → Tag} {L : Lay} {w : World} {m : MW} (h : WAt κ L w m) {f : MFl} (hf : f ∈ m.files) (p : Nat) (hp : p ≤ 1048576) :
    St κ w κ L (w.setCell ⟨L.fl f.num, 2, none⟩ (.int .i64 p)) (m.setF { f with pos := p }) := by
  have hc := blk_put (h.hf f hf) 2 (.int .i64 (p : Int)) (cs' := L.fcells { f with pos := p }) rfl
  have ho : ∀ k, k ≠ L.fl f.num → (w.setCell ⟨L.fl f.num, 2, none⟩ (.int .i64 p)).heap[k]? = w.heap[k]? := fun k hk => Below.heap_setCell _ _ _ _ hk
  have hs : (w.setCell ⟨L.fl f.num, 2, none⟩ (.int .i64 p)).heap.size = w.heap.size := by simp [World.setCell]
  exact ⟨h.setF hf rfl rfl hp hc ho hs, Nx.set (g := L.fl f.num) (by rw [h.kf f hf]; exact Tag.noConfusion) rfl rfl rfl ho hs⟩
theorem read_walk {κ : Nat → Tag} {L : Lay} {m m' : MW} (n : Int) (mv : Bool) (w : World) (h : WAt κ L w m) (v e : Int) (hr : m.read n mv = (m', v, e)) : Calls Tryd.prog 54 #[pt L.p, .int .i64 n, .bool mv] w fun x w' => x = .returned (.tuple #[.int .i64 v, .int .i64 e]) ∧ St κ w κ L w' m' := by
  have H := Aside0.mk h
  have HF := Aside0.mk (file_walk n w h _ rfl)
  unfold MW.read at hr
  unfold pt at *
  cases hfile : m.file n with
  | none =>
    rw [hfile] at hr HF
    simp only [Prod.mk.injEq] at hr
    obtain ⟨rfl, rfl, rfl⟩ := hr
    clear h hfile
    unfold fileV at HF
    go_enter Tryd.func54, Tryd.ntmps54
    go_wp2_with (go_at_call 44; refine HF.out.mono ?_; rintro e w' ⟨rfl, rfl⟩)
    go_ret2
    exact ⟨rfl, H.out.st⟩
  | some f =>
    rw [hfile] at hr HF
    obtain ⟨hf, hnum⟩ := MW.file_mem hfile
    have HM := Aside0.mk hf
    unfold fileV pt at HF
    by_cases h2 : n = 2
    · subst h2
      simp only [if_pos, Prod.mk.injEq] at hr
      obtain ⟨rfl, rfl, rfl⟩ := hr
      clear h hfile hf hnum
      go_enter Tryd.func54, Tryd.ntmps54
      go_wp2_with (go_at_call 44; refine HF.out.mono ?_; rintro e w' ⟨rfl, rfl⟩)
      go_ret2
      exact ⟨rfl, H.out.st⟩
    · simp only [if_neg h2] at hr
      obtain ⟨z0, z1, z2, z3⟩ := (h.fc hf).1
      obtain ⟨p, e0, hne⟩ : ∃ p e0, nextR f.fl ((m.text f).drop f.pos) f.pos = (p, e0) := ⟨_, _, rfl⟩
      have HN := Aside0.mk (next_walk w h hf f.pos (h.ok.pos f hf).2 p e0 hne)
      unfold pt at HN
      rw [hne] at hr
      cases e0 with
      | succ e1 =>
        simp only [Prod.mk.injEq] at hr
        obtain ⟨rfl, rfl, rfl⟩ := hr
        clear h hfile hf hnum hne
        have h1 : ¬ (((e1 + 1 : Nat) : Int) = 0) := by omega
        go_enter Tryd.func54, Tryd.ntmps54
        go_wp2_with (first | (go_at_call 44; refine HF.out.mono ?_; rintro e w' ⟨rfl, rfl⟩) | (go_at_call 75; refine HN.out.mono ?_; rintro e w' ⟨rfl, rfl⟩))
        go_ret2
        exact ⟨rfl, H.out.st⟩
      | zero =>
        simp only [Prod.mk.injEq] at hr
        obtain ⟨rfl, rfl, rfl⟩ := hr
        have hlt := nextR_lt _ _ _ _ hne
        rw [List.length_drop] at hlt
        obtain ⟨g, a, cap, hg, hkg, t1, hl, hcl, hcm, hQ⟩ := h.ft hf
        obtain ⟨q, rfl, hkq, hc⟩ := hQ p (by omega)
        have hgd : (m.text f).getD p 0 = (m.text f)[p]'(by omega) := by rw [List.getD_eq_getElem?_getD, List.getElem?_eq_getElem (by omega)]; rfl
        rw [hgd]
        have hbg : g ≠ L.fl f.num := tne hkg (h.kf f hf) Tag.noConfusion
        have hbq : q ≠ L.fl f.num := tne hkq (h.kf f hf) Tag.noConfusion
        have f2 := (h.fc hf).2.1
        have f3 := (h.fc hf).2.2
        have hp1 : p + 1 ≤ 1048576 := by omega
        have HP1 := Aside0.mk ((h.put23 hf p 1 (by omega)))
        rw [hg] at z1
        have HP2 : St κ w κ L (((w.setCell ⟨L.fl f.num, 2, none⟩ (.int .i64 p)).setCell ⟨L.fl f.num, 3, none⟩ (.int .i64 1)).setCell ⟨L.fl f.num, 2, none⟩ (.int .i64 (p + 1 : Nat))) (m.setF { f with pos := p + 1, mood := 1 }) := by
          rw [← setF_setF m { f with pos := p, mood := 1 } { f with pos := p + 1, mood := 1 } rfl]
          exact HP1.out.then ((HP1.out.1).put2 (setF_mem hf rfl) (p + 1) hp1)
        have HE' := Aside0.mk HP2
        clear HP2
        generalize (m.text f)[p]'(by omega) = c at *
        have hcb : c.toNat ≤ 255 := by have := c.toNat_lt; omega
        generalize c.toNat = d at *
        clear hfile hf hnum hne hg hkg hkq hQ hgd h hcl hcm
        cases mv with
        | false =>
          have HE := HP1
          clear HP1 HE'
          go_enter Tryd.func54, Tryd.ntmps54
          go_wp2_with (first | (go_at_call 44; refine HF.out.mono ?_; rintro e w' ⟨rfl, rfl⟩) | (go_at_call 75; refine HN.out.mono ?_; rintro e w' ⟨rfl, rfl⟩))
          go_ret2
          exact ⟨rfl, HE.out⟩
        | true =>
          clear HP1
          go_enter Tryd.func54, Tryd.ntmps54
          go_wp2_with (first | (go_at_call 44; refine HF.out.mono ?_; rintro e w' ⟨rfl, rfl⟩) | (go_at_call 75; refine HN.out.mono ?_; rintro e w' ⟨rfl, rfl⟩))
          go_ret2
          exact ⟨rfl, HE'.out⟩
end Go.Proofs.YtonmdifmlpfcpaaDoor.PB
