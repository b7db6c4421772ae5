import Derived.StillTailTactics
import Derived.ArgAppend
import Derived.Below
import Derived.BigQuiet
import Derived.Deep.AppendLies
import Derived.Deep.CutBlock
import Derived.Deep.DeepCutAuto
import Derived.Deep.Draws
import Derived.Deep.LoopGhost
import Derived.Deep.OwnRows
import Derived.Deep.QuietTactic
import Derived.Deep.RegionHeld3
import Derived.KernelRfl
import Derived.Laws.Bits64b
import Derived.Laws.BitsLemmas
import Derived.Laws.BytesArg
import Derived.Laws.Externs
import Derived.Laws.IdiomCopy
import Derived.Laws.MakeOwn
import Derived.Laws.MathBits
import Derived.Laws.OwnMore
import Derived.Laws.Rows
import Derived.Laws.Slices
import Derived.Lib.AppendStr
import Derived.Lib.ConvBytes
import Derived.Maps.AppendAt
import Derived.OrdersHeld
import Derived.OwnWalk
import Derived.RowKit
import Derived.RowKit3
import Derived.Tactics
import Derived.Test.YtonmdifmlpfcpaaDoorProg
import Derived.WalkKit
import Derived.WideLaws
import Derived.Lib.Walk
import Derived.Lib.SliceRun
import Derived.Lib.JoinLaws
import Derived.Lib.AppendZeros
import Derived.Lib.Overlaps
import Derived.Lib.AppendZerosOnto
import Derived.Shelf.RegionOpenPlain
import Derived.Shelf.Spec.SlicesInsert
import Derived.Deep.RegionLaw
import Derived.Test.YtonmdifmlpfcpaaDoorWWords
import Derived.Test.YtonmdifmlpfcpaaDoorWLast
import Derived.Test.YtonmdifmlpfcpaaDoorWTab
import Derived.Test.YtonmdifmlpfcpaaDoorWFour
import Derived.Test.YtonmdifmlpfcpaaDoorWQPut
import Derived.Test.YtonmdifmlpfcpaaDoorWApart
import Derived.Test.YtonmdifmlpfcpaaDoorWArr
import Derived.Test.YtonmdifmlpfcpaaDoorWZeros
import Derived.Test.YtonmdifmlpfcpaaDoorWFoot
import Derived.Test.YtonmdifmlpfcpaaDoorWKept
import Derived.Test.YtonmdifmlpfcpaaDoorWShare
import Derived.Test.YtonmdifmlpfcpaaDoorWN
import Derived.Test.YtonmdifmlpfcpaaDoorWFootNe
import Derived.Test.YtonmdifmlpfcpaaDoorWAt
import Derived.Test.YtonmdifmlpfcpaaDoorWEqStruct
import Derived.Test.YtonmdifmlpfcpaaDoorWRepsOne
import Derived.Test.YtonmdifmlpfcpaaDoorWInv
import Derived.Test.YtonmdifmlpfcpaaDoorWInvWords
import Derived.Test.YtonmdifmlpfcpaaDoorWGuard
import Derived.Test.YtonmdifmlpfcpaaDoorWNEv
import Derived.Test.YtonmdifmlpfcpaaDoorWMore
import Derived.Test.YtonmdifmlpfcpaaDoorBnew
import Derived.Test.YtonmdifmlpfcpaaDoorBget
import Derived.Test.YtonmdifmlpfcpaaDoorBpos
namespace Go.Proofs.YtonmdifmlpfcpaaDoor.PB
open Go.RowKit Go.Proofs.YtonmdifmlpfcpaaDoorW.PrintWords Go.Proofs.YtonmdifmlpfcpaaDoorW.PrintLast Go.Proofs.YtonmdifmlpfcpaaDoorW.PrintMore
set_option linter.unusedVariables false
set_option linter.unusedSimpArgs false
set_option maxRecDepth 100000
set_option maxHeartbeats 1000000
def awB : ABk := ⟨⟨#[105, 110]⟩, ⟨#[97, 98, 10, 12, 99]⟩, false⟩
def aw0 : MW := (newR [awB]).1
def aw1 : MW := (aw0.openB ⟨#[105, 110]⟩).1
def aw2 : MW := (aw1.read 4 true).1
def aw3 : MW := (aw2.read 4 true).1
def aw4 : MW := (aw3.read 4 true).1
def aw5 : MW := (aw4.read 4 true).1
theorem aw_0 : newR [awB] = (aw0, 0) := Prod.ext rfl (by decide +kernel)
theorem aw_1 : aw0.openB ⟨#[105, 110]⟩ = (aw1, 4, 0) := Prod.ext rfl (by decide +kernel)
theorem aw_2 : aw1.read 4 true = (aw2, 97, 0) := Prod.ext rfl (by decide +kernel)
theorem aw_3 : aw2.read 4 true = (aw3, 98, 0) := Prod.ext rfl (by decide +kernel)
theorem aw_4 : aw3.read 4 true = (aw4, 99, 0) := Prod.ext rfl (by decide +kernel)
theorem aw_5 : aw4.read 4 true = (aw5, 0, 22) := Prod.ext rfl (by decide +kernel)
theorem aw_6 : aw5.position 4 = (2, 1, 2, 0) := by decide +kernel
theorem awake_walk (w : World) : Calls Tryd.prog 6 #[] w fun e w' => e = .returned (.bool true) ∧ Below w.heap.size w w' := by
  have hb := blk_new w (.cells #[.string ⟨#[105, 110]⟩, .string ⟨#[97, 98, 10, 12, 99]⟩, .bool false] 38)
  have hA : AAt (w.alloc (.cells #[.string ⟨#[105, 110]⟩, .string ⟨#[97, 98, 10, 12, 99]⟩, .bool false] 38)) (some ⟨w.heap.size, 0, none⟩) [awB] := by
    intro i hi
    obtain rfl : i = 0 := by simpa using hi
    exact ⟨w.heap.size, 0, rfl, (blk_cell hb 0).trans rfl, (blk_cell hb 1).trans rfl, (blk_cell hb 2).trans rfl⟩
  have HN := Aside0.mk (new_walk [awB] _ 1 _ (fun x hx => by obtain rfl := List.mem_singleton.1 hx; exact ⟨by decide, by decide⟩) (by decide) hA (Nat.le_refl _) (by decide) aw0 0 aw_0)
  have HB := Aside0.mk (below_alloc (Below.refl w.heap.size w) (.cells #[.string ⟨#[105, 110]⟩, .string ⟨#[97, 98, 10, 12, 99]⟩, .bool false] 38))
  clear hb hA
  go_enter Tryd.func6, Tryd.ntmps6
  go_wp2_with fail
  refine HN.out.mono ?_
  rintro e w1 (⟨-, κ, L, rfl, h1⟩ | ⟨h, _⟩)
  · unfold pt
    have H1 := Aside0.mk h1
    have HO := Aside0.mk (open_walk ⟨#[105, 110]⟩ w1 h1.1 4 0 aw_1)
    clear h1
    unfold pt at HO
    go_wp2_with fail
    refine HO.out.mono ?_
    rintro e w2 ⟨rfl, κ2, L2, hp2, h2⟩
    have H2 := Aside0.mk (H1.out.then h2)
    have HG := Aside0.mk (get_walk 4 w2 h2.1 97 0 aw_2)
    clear h2 HO H1 HN
    unfold pt at HG
    rw [hp2] at HG
    go_wp2_with fail
    refine HG.out.mono ?_
    rintro e w3 ⟨rfl, h3⟩
    have H3 := Aside0.mk (H2.out.then h3)
    have HG3 := Aside0.mk (get_walk 4 w3 h3.1 98 0 aw_3)
    clear h3 HG H2
    unfold pt at HG3
    rw [hp2] at HG3
    go_wp2_with fail
    refine HG3.out.mono ?_
    rintro e w4 ⟨rfl, h4⟩
    have H4 := Aside0.mk (H3.out.then h4)
    have HG4 := Aside0.mk (get_walk 4 w4 h4.1 99 0 aw_4)
    clear h4 HG3 H3
    unfold pt at HG4
    rw [hp2] at HG4
    go_wp2_with fail
    refine HG4.out.mono ?_
    rintro e w5 ⟨rfl, h5⟩
    have H5 := Aside0.mk (H4.out.then h5)
    have HG5 := Aside0.mk (get_walk 4 w5 h5.1 0 22 aw_5)
    clear h5 HG4 H4
    unfold pt at HG5
    rw [hp2] at HG5
    go_wp2_with fail
    refine HG5.out.mono ?_
    rintro e w6 ⟨rfl, h6⟩
    have H6 := Aside0.mk (H5.out.then h6)
    have HP := Aside0.mk (position_walk 4 w6 h6.1 2 1 2 0 aw_6)
    clear h6 HG5 H5
    unfold pt at HP
    rw [hp2] at HP
    go_wp2_with fail
    refine HP.out.mono ?_
    rintro e w7 ⟨rfl, h7⟩
    have H7 := Aside0.mk (below_step (below_step HB.out H6.out.older) h7.below)
    clear HP H6 h7
    go_wp2
    go_ret
    exact ⟨rfl, H7.out⟩
  · exact absurd rfl h
end Go.Proofs.YtonmdifmlpfcpaaDoor.PB
