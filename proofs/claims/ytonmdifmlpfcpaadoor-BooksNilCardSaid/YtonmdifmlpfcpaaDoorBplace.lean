import Derived.StillTailTactics
import Derived.ArgAppend
import Derived.Below
import Derived.BigQuiet
import Derived.Deep.AppendLies
import Derived.Deep.CutBlock
import Derived.Deep.DeepCutAuto
import Derived.Deep.Draws
import Derived.Deep.LoopGhost
import Derived.Deep.OwnRows
import Derived.Deep.QuietTactic
import Derived.Deep.RegionHeld3
import Derived.KernelRfl
import Derived.Laws.Bits64b
import Derived.Laws.BitsLemmas
import Derived.Laws.BytesArg
import Derived.Laws.Externs
import Derived.Laws.IdiomCopy
import Derived.Laws.MakeOwn
import Derived.Laws.MathBits
import Derived.Laws.OwnMore
import Derived.Laws.Rows
import Derived.Laws.Slices
import Derived.Lib.AppendStr
import Derived.Lib.ConvBytes
import Derived.Maps.AppendAt
import Derived.OrdersHeld
import Derived.OwnWalk
import Derived.RowKit
import Derived.RowKit3
import Derived.Tactics
import Derived.Test.YtonmdifmlpfcpaaDoorProg
import Derived.WalkKit
import Derived.WideLaws
import Derived.Test.YtonmdifmlpfcpaaDoorWWords
import Derived.Test.YtonmdifmlpfcpaaDoorWLast
import Derived.Test.YtonmdifmlpfcpaaDoorWTab
import Derived.Test.YtonmdifmlpfcpaaDoorWFour
import Derived.Test.YtonmdifmlpfcpaaDoorWQPut
import Derived.Test.YtonmdifmlpfcpaaDoorWApart
import Derived.Test.YtonmdifmlpfcpaaDoorWArr
import Derived.Test.YtonmdifmlpfcpaaDoorWZeros
import Derived.Test.YtonmdifmlpfcpaaDoorWFoot
import Derived.Test.YtonmdifmlpfcpaaDoorWKept
import Derived.Test.YtonmdifmlpfcpaaDoorWShare
import Derived.Test.YtonmdifmlpfcpaaDoorWN
import Derived.Test.YtonmdifmlpfcpaaDoorWFootNe
import Derived.Test.YtonmdifmlpfcpaaDoorWAt
import Derived.Test.YtonmdifmlpfcpaaDoorWEqStruct
import Derived.Test.YtonmdifmlpfcpaaDoorWRepsOne
import Derived.Test.YtonmdifmlpfcpaaDoorWInv
import Derived.Test.YtonmdifmlpfcpaaDoorWInvWords
import Derived.Test.YtonmdifmlpfcpaaDoorWGuard
import Derived.Test.YtonmdifmlpfcpaaDoorWNEv
import Derived.Test.YtonmdifmlpfcpaaDoorWMore
import Derived.Test.YtonmdifmlpfcpaaDoorBwa
namespace Go.Proofs.YtonmdifmlpfcpaaDoor.PB
open Go.RowKit Go.Proofs.YtonmdifmlpfcpaaDoorW.PrintWords Go.Proofs.YtonmdifmlpfcpaaDoorW.PrintLast Go.Proofs.YtonmdifmlpfcpaaDoorW.PrintMore
set_option linter.unusedVariables false
set_option linter.unusedSimpArgs false
set_option maxRecDepth 100000
set_option maxHeartbeats 1000000
theorem place_walk {κ : Nat → Tag} {L : Lay} {m : MW} {f : MFl} (w : World) (h : WAt κ L w m) (hf : f ∈ m.files) : Calls Tryd.prog 45 #[pt (L.fl f.num)] w fun e w' => e = .returned (.int .i64 (min f.pos (m.text f).length : Nat)) ∧ Rd w w' := by
  obtain ⟨z0, z1, z2, z3⟩ := (h.fc hf).1
  obtain ⟨g, a, cap, hg, hkg, t1, hl, hcl, hcm, hQ⟩ := h.ft hf
  clear hQ hkg hcl hcm
  have hp := (h.ok.pos f hf).2
  rw [hg] at z1
  clear h hf hg
  generalize m.text f = t at *
  generalize t.length = n at *
  generalize L.fl f.num = b at *
  generalize f.pos = p at *
  unfold pt
  go_enter Tryd.func45, Tryd.ntmps45
  go_wp2
  go_region
  go_wp2
  all_goals (go_ret; exact ⟨congrArg (fun z => Ending.returned (.int .i64 z)) (by omega), Rd.drew _⟩)
theorem tell_walk {κ : Nat → Tag} {L : Lay} {m : MW} {f : MFl} (ev : Nat) (w : World) (h : WAt κ L w m) (hf : f ∈ m.files) (he : ev < 6) : Calls Tryd.prog 65 #[pt (L.fl f.num), .int .i64 ev] w fun e w' => e = .returned (.int .i64 (if f.fl ev then 0 else 22)) ∧ w = w' := by
  obtain ⟨z0, _⟩ := h.flag hf ev he
  clear h hf
  generalize L.fl f.num = b at *
  generalize f.fl ev = v at *
  unfold pt
  cases v with
  | true =>
    go_enter Tryd.func65, Tryd.ntmps65
    go_wp2
    go_ret
    exact ⟨rfl, rfl⟩
  | false =>
    go_enter Tryd.func65, Tryd.ntmps65
    go_wp2
    go_ret
    exact ⟨rfl, rfl⟩
end Go.Proofs.YtonmdifmlpfcpaaDoor.PB
