import Derived.StillTailTactics
import Derived.ArgAppend
import Derived.Below
import Derived.BigQuiet
import Derived.Deep.AppendLies
import Derived.Deep.CutBlock
import Derived.Deep.DeepCutAuto
import Derived.Deep.Draws
import Derived.Deep.LoopGhost
import Derived.Deep.OwnRows
import Derived.Deep.QuietTactic
import Derived.Deep.RegionHeld3
import Derived.KernelRfl
import Derived.Laws.Bits64b
import Derived.Laws.BitsLemmas
import Derived.Laws.BytesArg
import Derived.Laws.Externs
import Derived.Laws.IdiomCopy
import Derived.Laws.MakeOwn
import Derived.Laws.MathBits
import Derived.Laws.OwnMore
import Derived.Laws.Rows
import Derived.Laws.Slices
import Derived.Lib.AppendStr
import Derived.Lib.ConvBytes
import Derived.Maps.AppendAt
import Derived.OrdersHeld
import Derived.OwnWalk
import Derived.RowKit
import Derived.RowKit3
import Derived.Tactics
import Derived.Test.YtonmdifmlpfcpaaDoorProg
import Derived.WalkKit
import Derived.WideLaws
import Derived.Lib.Walk
import Derived.Lib.SliceRun
import Derived.Lib.JoinLaws
import Derived.Lib.AppendZeros
import Derived.Lib.Overlaps
import Derived.Lib.AppendZerosOnto
import Derived.Shelf.RegionOpenPlain
import Derived.Shelf.Spec.SlicesInsert
import Derived.Deep.RegionLaw
import Derived.Test.YtonmdifmlpfcpaaDoorWWords
import Derived.Test.YtonmdifmlpfcpaaDoorWLast
import Derived.Test.YtonmdifmlpfcpaaDoorWTab
import Derived.Test.YtonmdifmlpfcpaaDoorWFour
import Derived.Test.YtonmdifmlpfcpaaDoorWQPut
import Derived.Test.YtonmdifmlpfcpaaDoorWApart
import Derived.Test.YtonmdifmlpfcpaaDoorWArr
import Derived.Test.YtonmdifmlpfcpaaDoorWZeros
import Derived.Test.YtonmdifmlpfcpaaDoorWFoot
import Derived.Test.YtonmdifmlpfcpaaDoorWKept
import Derived.Test.YtonmdifmlpfcpaaDoorWShare
import Derived.Test.YtonmdifmlpfcpaaDoorWN
import Derived.Test.YtonmdifmlpfcpaaDoorWFootNe
import Derived.Test.YtonmdifmlpfcpaaDoorWAt
import Derived.Test.YtonmdifmlpfcpaaDoorWEqStruct
import Derived.Test.YtonmdifmlpfcpaaDoorWRepsOne
import Derived.Test.YtonmdifmlpfcpaaDoorWInv
import Derived.Test.YtonmdifmlpfcpaaDoorWInvWords
import Derived.Test.YtonmdifmlpfcpaaDoorWGuard
import Derived.Test.YtonmdifmlpfcpaaDoorWNEv
import Derived.Test.YtonmdifmlpfcpaaDoorWMore
import Derived.Test.YtonmdifmlpfcpaaDoorBreg
import Derived.Test.YtonmdifmlpfcpaaDoorBnewa
import Derived.Test.YtonmdifmlpfcpaaDoorBopen
import Derived.Test.YtonmdifmlpfcpaaDoorBcheck
import Derived.Test.YtonmdifmlpfcpaaDoorBread
namespace Go.Proofs.YtonmdifmlpfcpaaDoor.PB
open Go.RowKit Go.Proofs.YtonmdifmlpfcpaaDoorW.PrintWords Go.Proofs.YtonmdifmlpfcpaaDoorW.PrintLast Go.Proofs.YtonmdifmlpfcpaaDoorW.PrintMore
set_option linter.unusedVariables false
set_option linter.unusedSimpArgs false
set_option maxRecDepth 100000
set_option maxHeartbeats 1000000
def newBooks : List ABk → MW → List ABk → MW × Nat
  | _, m, [] => (m, 0)
  | pre, m, x :: r => match checkR x pre with
    | 0 => newBooks (pre ++ [x]) (m.addB x.name x.text.data.toList x.write) r
    | e + 1 => (m, e + 1)
def κ0 : Nat → Tag := fun _ => .no
def nameAt : Nat → ByteArray
  | 0 => ⟨#[115, 116, 97, 110, 100, 105, 110]⟩
  | 1 => ⟨#[115, 116, 97, 110, 100, 111, 117, 116]⟩
  | _ => ⟨#[115, 116, 97, 110, 100, 98, 97, 99, 107]⟩
def MW.stdF (m : MW) (b : MBk) : MW := if m.addN = 2 then (m.addF b.id).setF { freshF m.addN b.id with pos := b.text.length, mood := 2 } else m.addF b.id
def MW.std (m : MW) (i : Nat) (s : ByteArray) : MW :=
  match m.find s with
  | some b => m.stdF b
  | none => (m.addB s [] (decide (0 < i))).stdF ⟨m.next, s, [], decide (0 < i)⟩
def stdK : Nat → Nat → MW → MW
  | 0, _, m => m
  | n + 1, k, m => stdK n (k + 1) (m.std k (nameAt k))
def newR (bs : List ABk) : MW × Nat :=
  if 64 < bs.length then (⟨0, [], []⟩, 3) else
  match newBooks [] ⟨0, [], []⟩ bs with
  | (m, 0) => (stdK 3 0 m, 0)
  | (m, e + 1) => (m, e + 1)
theorem cell_al {w : World} {o : Obj} {y : Addr} {v : Value} (h : w.cell? y = some v) : (w.alloc o).cell? y = some v :=
  (World.cell?_of_block (Below.heap_alloc w o y.block (World.block_lt_of_cell? w _ h))).trans h
theorem cell_old {w w' : World} {y : Addr} {v : Value} (hw : ∀ k, k < w.heap.size → w'.heap[k]? = w.heap[k]?) (h : w.cell? y = some v) : w'.cell? y = some v :=
  (World.cell?_of_block (hw y.block (World.block_lt_of_cell? w _ h))).trans h
def nw_T : Bool × List (List Nat × List Nat) := (true, [([], []), ([], []), ([1], [1]), ([2], [2]), ([3], [3]), ([], []), ([5], [5]), ([], []), ([7], [7]), ([8], [8]), ([], []), ([10], [10]), ([6, 9, 11], [6, 9, 11]), ([12], [12]), ([13], [13]), ([4, 14], [4, 14]), ([0, 0, 1, 2, 3, 4, 5, 6, 7, 8, 9, 10, 11, 12, 13, 14, 15], [0]), ([16, 0, 1, 2, 3, 4, 5, 6, 7, 8, 9, 10, 11, 12, 13, 14, 15], [16]), ([17, 15, 15, 0, 1, 2, 3, 4, 5, 6, 7, 8, 9, 10, 11, 12, 13, 14, 15], [15, 17])])
def nw_B : List Nat := [0, 0, 2, 6, 14, 0, 32, 0, 128, 384, 0, 1024, 4064, 8160, 16352, 32766, 65535, 131071, 262143]
theorem checkR_ok {x : ABk} {bs : List ABk} (h : checkR x bs = 0) : x.text.size ≤ 1048576 := by
  unfold checkR at h
  split at h
  · omega
  · split at h
    · omega
    · split at h
      · omega
      · split at h
        · omega
        · omega
theorem St.older {κ : Nat → Tag} {L : Lay} {w w' : World} {m : MW} (h : St κ0 w κ L w' m) : Below w.heap.size w w' := ⟨h.2.os, h.2.tape, h.2.output, h.2.size, fun k hk => h.2.block k hk rfl⟩
def NewPost (w : World) (M : MW) (E : Nat) (e : Ending) (w' : World) : Prop :=
  (E = 0 ∧ ∃ κ L, e = .returned (.tuple #[pt L.p, .int .i64 0]) ∧ St κ0 w κ L w' M) ∨ (E ≠ 0 ∧ e = .returned (.tuple #[.pointer none, .int .i64 E]) ∧ Below w.heap.size w w')
theorem nx_keep {κ κ' : Nat → Tag} {w w' : World} {k : Nat} {o : Obj} (h : Nx κ w κ' w') (h0 : κ k = .no ∧ k < w.heap.size ∧ w.heap[k]? = some o) : κ' k = .no ∧ k < w'.heap.size ∧ w'.heap[k]? = some o :=
  ⟨(h.tag k h0.2.1).2 h0.1, Nat.lt_of_lt_of_le h0.2.1 h.size, (h.block k h0.2.1 h0.1).trans h0.2.2⟩
theorem new_start (w : World) : St κ0 w (fun k => if k = w.heap.size then .wd else .no) ⟨w.heap.size, .slice none 0 0, .slice none 0 0, fun _ => 0, fun _ => .slice none 0 0, fun _ => 0⟩ (w.alloc (.cells #[.slice none 0 0, .slice none 0 0] 67)) ⟨0, [], []⟩ := by
  have hs : (w.alloc (.cells #[.slice none 0 0, .slice none 0 0] 67)).heap.size = w.heap.size + 1 := by simp
  refine ⟨⟨⟨Nat.zero_le _, Nat.zero_le _, List.nodup_nil, (fun _ h => absurd h List.not_mem_nil), (fun _ h => absurd h List.not_mem_nil), List.Pairwise.nil, (fun _ h => absurd h List.not_mem_nil), (fun _ h => absurd h List.not_mem_nil)⟩, if_pos rfl, blk_new _ _, World.ownsRow_nil .., (fun g hg => by cases hg), World.ownsRow_nil .., (fun g hg => by cases hg), (fun _ h => absurd h List.not_mem_nil), (fun _ h => absurd h List.not_mem_nil), (fun _ h => absurd h List.not_mem_nil), (fun _ h => absurd h List.not_mem_nil), (fun _ h => absurd h List.not_mem_nil), (fun k hk => if_neg (by omega))⟩, ⟨rfl, rfl, rfl, by omega, (fun k hk _ => Below.heap_alloc _ _ _ hk), (fun k hk => ?_)⟩⟩
  show (if k = w.heap.size then Tag.wd else Tag.no) = .no ↔ _
  rw [if_neg (by omega)]
  exact Iff.rfl
theorem new_walk (bs : List ABk) (a : Option Addr) (cap : Nat) (w : World) (hn : ∀ x ∈ bs, x.name.size ≤ 9223372036854775807 ∧ x.text.size ≤ 9223372036854775807) (hlen : bs.length ≤ 9223372036854775807) (hA : AAt w a bs) (hcap : bs.length ≤ cap) (hcm : cap ≤ maxLen) (M : MW) (E : Nat) (hr : newR bs = (M, E)) :
    Calls Tryd.prog 23 #[.slice a bs.length cap] w (NewPost w M E) := by
  unfold newR at hr
  by_cases hbig : 64 < bs.length
  · rw [if_pos hbig] at hr
    obtain ⟨-, rfl⟩ := Prod.mk.inj hr
    have hbig' : (64 : Int) < (bs.length : Int) := by omega
    clear hA hr
    go_enter Tryd.func23, Tryd.ntmps23
    go_wp2
    go_ret2
    exact .inr ⟨by decide, rfl, Below.refl _ _⟩
  rw [if_neg hbig] at hr
  have hlen : bs.length ≤ 64 := by omega
  have HM := Aside0.mk hr
  clear hr
  have HA := Aside0.mk hA
  have HN := Aside0.mk hn
  have hcm' : cap ≤ 9223372036854775807 := hcm
  have hl' : ¬ (64 < bs.length) := by omega
  have hW0 := new_start w
  have HW0 := Aside0.mk hW0
  clear hA hn hcm hW0
  go_enter Tryd.func23, Tryd.ntmps23
  go_wp2
  generalize hp : w.heap.size = p at *
  go_loopw [19] (fun i wr => ∃ (k : Nat) (κ : Nat → Tag) (L : Lay) (m : MW), k ≤ bs.length ∧ i = .int .i64 k ∧ L.p = p ∧ m.books.length = k ∧ m.files.length = 0 ∧ Aside0 (St κ0 w κ L wr m) ∧ Aside0 (newBooks (bs.take k) m (bs.drop k) = newBooks [] ⟨0, [], []⟩ bs)) (fun i _ => bs.length - (intOf i).toNat)
  case atStart => exact ⟨0, _, _, _, Nat.zero_le _, rfl, rfl, rfl, rfl, HW0, ⟨rfl⟩⟩
  case round =>
    obtain ⟨k, κ, L, m, hk, rfl, hL, hmk, hmf, HS, HR⟩ := hrel
    by_cases hlt : k < bs.length
    · have hc := (HA.out.below HS.out.older) k hlt
      obtain ⟨g, o, rfl, h0, h1, h2⟩ := hc
      have hmem := Aside0.mk (HN.out _ (List.getElem_mem hlt))
      have hsn : bs.drop k = bs[k] :: bs.drop (k + 1) := List.drop_eq_getElem_cons hlt
      have hst : bs.take (k + 1) = bs.take k ++ [bs[k]] := List.take_succ_eq_append_getElem hlt
      rw [hsn] at HR
      have HR' : Aside0 ((match checkR bs[k] (bs.take k) with | 0 => newBooks (bs.take (k + 1)) (m.addB bs[k].name bs[k].text.data.toList bs[k].write) (bs.drop (k + 1)) | e + 1 => (m, e + 1)) = newBooks [] ⟨0, [], []⟩ bs) := ⟨by rw [hst]; exact HR.out⟩
      clear hsn hst HR
      generalize bs[k] = x at *
      go_upto_region 7 with fail
      have HX := (bxs_nil wr).push x.cells 38
      unfold ABk.cells at HX
      generalize wr.alloc _ = W1 at *
      have y0 : W1.cell? ⟨wr.heap.size, 0, none⟩ = some (.string x.name) := (blk_cell HX.get 0).trans rfl
      have y1 : W1.cell? ⟨wr.heap.size, 1, none⟩ = some (.string x.text) := (blk_cell HX.get 1).trans rfl
      have y2 : W1.cell? ⟨wr.heap.size, 2, none⟩ = some (.bool x.write) := (blk_cell HX.get 2).trans rfl
      have HX1 := Aside0.mk HX
      have htl : (bs.take k).length = k := by rw [List.length_take]; omega
      have hA1 : AAt W1 (some ⟨g, o, none⟩) bs := (HA.out.below HS.out.older).below HX.b
      obtain ⟨R, hR⟩ : ∃ R, checkR x (bs.take k) = R := ⟨_, rfl⟩
      have HCK := Aside0.mk (fun (W : World) (hW : Below W1.heap.size W1 W) => check_walk x (bs.take k) (some ⟨g, o, none⟩) cap W hmem.out.1 hmem.out.2 (by omega) ((hA1.below hW).take k) R hR)
      rw [htl] at HCK
      rw [hR] at HR'
      clear HX htl hA1
      generalize hq : wr.heap.size = q at *
      go_cut [7] (fun s7 wx => s7 = .int .i64 R ∧ Aside0 (Bxs wr wx [(q, #[.string x.name, .string x.text, .bool x.write], 38)]))
      case first =>
        go_region_with ((go_at_call 51; refine (HCK.out _ (below_drew1 (Below.refl _ _))).mono ?_; rintro e w2 ⟨rfl, hb⟩))
        all_goals (go_wp2; go_meet)
        all_goals exact ⟨rfl, ⟨HX1.out.next (below_step (below_drew1 (Below.refl _ _)) hb)⟩⟩
      case rest =>
        obtain ⟨rfl, HX⟩ := hcut
        clear y0 y1 y2 HX1 HCK
        have hbx := HX.out.b
        have HSx := Aside0.mk (HS.out.below hbx)
        obtain ⟨x0, x1, x2⟩ : wc.cell? ⟨q, 0, none⟩ = some (.string x.name) ∧ wc.cell? ⟨q, 1, none⟩ = some (.string x.text) ∧ wc.cell? ⟨q, 2, none⟩ = some (.bool x.write) := ⟨(blk_cell HX.out.get 0).trans rfl, (blk_cell HX.out.get 1).trans rfl, (blk_cell HX.out.get 2).trans rfl⟩
        clear hbx h0 h1 h2
        cases R with
        | succ e =>
          have hne : ¬ ((e + 1 : Nat) : Int) = 0 := by omega
          obtain rfl : e + 1 = E := by
            have := HM.out; rw [← HR'.out] at this; exact (Prod.mk.inj this).2
          go_wp2
          go_ret2
          exact .inr ⟨by omega, rfl, HSx.out.older⟩
        | zero =>
          have ht := checkR_ok hR
          have hadd := new_add x HSx.out.1 rfl (by omega) ht
          have hconv := Lib.run_convert_string_bytes (P := Tryd.prog) wc.drew 9 70 5 x.text Tryd.underlying9 Tryd.underlying70 Tryd.underlying5
          have hWB : True ∧ (Lib.bytesWorld wc.drew 5 x.text).heap.size = wc.heap.size + 1 ∧ ∀ k, k < wc.heap.size → (Lib.bytesWorld wc.drew 5 x.text).heap[k]? = wc.heap[k]? := ⟨trivial, Lib.bytesWorld_size .., fun k hk => Lib.bytesWorld_at_old wc.drew _ _ k hk⟩
          generalize Lib.bytesWorld wc.drew 5 x.text = WB at *
          obtain ⟨g2, cap2, WE, κ', L', hr, ⟨zE, fE⟩, hLp, hst⟩ := hadd
          have HE := Aside0.mk hst
          have hz := (HSx.out.1.head).1.1
          rw [hL] at hz zE fE hst
          have HRUN := Aside0.mk hr
          clear hr hst
          have bz := cell_old hWB.2.2 hz
          have b0 := cell_old hWB.2.2 x0
          have b1 := cell_old hWB.2.2 x1
          have b2 := cell_old hWB.2.2 x2
          clear hWB
          go_upto_region 10 with fail
          refine start_ (n := 19) (S := fun w' => w'.cell? ⟨p, 0, none⟩ = some L.vb ∧ w'.cell? ⟨q, 0, none⟩ = some (.string x.name) ∧ w'.cell? ⟨q, 1, none⟩ = some (.string x.text) ∧ w'.cell? ⟨q, 2, none⟩ = some (.bool x.write)) (ds := [15, 18]) (bl 19 0) (by kernel_rfl) (by kernel_rfl) (by kernel_rfl) (⟨hz, x0, x1, x2⟩) (fun hHeld => ?_)
          refine with_tabW (T := nw_T) (B := nw_B) (by as_aux_lemma => kernel_rfl) (by as_aux_lemma => kernel_rfl) (fun HT_ HW_ => ?_)
          refine pu 0 32 (bl 19 0x1) HT_ ?_
          refine pu 1 33 (bl 19 0x3) HT_ ?_
          refine pu 2 34 (bl 19 0x7) HT_ ?_
          refine pu 3 35 (bl 19 0xf) HT_ ?_
          refine ta 4 36 (bl 19 0x1f) HT_ HW_ hHeld ?_
          refine pu 5 37 (bl 19 0x3f) HT_ ?_
          refine ta 6 38 (bl 19 0x7f) HT_ HW_ hHeld ?_
          refine pu 7 39 (bl 19 0xff) HT_ ?_
          refine ta 8 40 (bl 19 0x1ff) HT_ HW_ hHeld ?_
          refine pu 10 42 (bl 19 0x5ff) HT_ ?_
          refine ta 11 43 (bl 19 0xdff) HT_ HW_ hHeld ?_
          refine one_ (i := 9) (N := some 41) (bl 19 0xfff) rfl rfl (one_of HT_.out (by as_aux_lemma => kernel_rfl)) (by decide) (fun K hK => ?_)
          rw [if_pos (by as_aux_lemma => kernel_rfl)]
          go_simp
          refine hK.out _ _ (⟨bz, b0, b1, b2⟩) (fun hHeld => ?_)
          clear hK K
          refine pu 12 44 (bl 19 0x1fff) HT_ ?_
          refine one_ (i := 13) (N := some 45) (bl 19 0x3fff) rfl rfl (one_of HT_.out (by as_aux_lemma => kernel_rfl)) (by decide) (fun K hK => ?_)
          rw [if_pos (by as_aux_lemma => kernel_rfl)]
          go_simp
          refine hK.out _ _ (⟨cell_al bz, cell_al b0, cell_al b1, cell_al b2⟩) (fun hHeld => ?_)
          clear hK K
          refine one_ (i := 14) (N := some 46) (bl 19 0x7fff) rfl rfl (one_of HT_.out (by as_aux_lemma => kernel_rfl)) (by decide) (fun K hK => ?_)
          rw [if_pos (by as_aux_lemma => kernel_rfl)]
          go_simp
          refine hK.out _ _ (⟨cell_al (cell_al bz), cell_al (cell_al b0), cell_al (cell_al b1), cell_al (cell_al b2)⟩) (fun hHeld => ?_)
          clear hK K
          refine last_ (i := 15) (N := some 47) (bl 19 0xffff) rfl rfl (one_of HT_.out (by as_aux_lemma => kernel_rfl)) (by decide) (fun K hK => ?_)
          rw [if_pos (by as_aux_lemma => kernel_rfl)]
          refine Lib.wp_append_run _ (.tmp 36) (.tmp 46) 64 64 rfl L.vb (.slice (some ⟨WB.heap.size + 1, 0, none⟩) 1 1) ?_ ?_ (.slice (some ⟨g2, 0, none⟩) (m.books.length + 1) cap2) WE ?_ ?_
          · rfl
          · rfl
          · exact HRUN.out
          refine hK.out _ _ ?_
          clear hK K
          refine pu 16 48 (bl 19 0x1ffff) HT_ ?_
          refine pu 17 49 (bl 19 0x3ffff) HT_ ?_
          refine last_ (i := 18) (N := none) (bl 19 0x7ffff) rfl rfl (one_of HT_.out (by as_aux_lemma => kernel_rfl)) (by decide) (fun K hK => ?_)
          rw [if_pos (by as_aux_lemma => kernel_rfl)]
          go_simp
          refine hK.out _ _ ?_
          clear hK K
          refine done_ (done_of HT_.out (by as_aux_lemma => kernel_rfl)) ?_
          have HR2 : Aside0 (newBooks (bs.take (k + 1)) (m.addB x.name x.text.data.toList x.write) (bs.drop (k + 1)) = newBooks [] ⟨0, [], []⟩ bs) := HR'
          have hml : (m.addB x.name x.text.data.toList x.write).books.length = k + 1 := by show (m.books ++ [_]).length = _; rw [List.length_append, hmk]; rfl
          have HE2 := Aside0.mk (HSx.out.then HE.out)
          rw [hL, hmk] at HE2
          clear HRUN HE zE fE bz b0 b1 b2 x0 x1 x2
          go_wp2
          go_roundw
          case rel => exact ⟨k + 1, κ', L', _, by omega, by go_num, hLp.1.trans hL, hml, hmf, HE2, HR2⟩
          case measure => simp [intOf]; omega
    · obtain rfl : k = bs.length := by omega
      have hR := HR.out
      rw [List.drop_length] at hR
      have hM := HM.out
      rw [← hR] at hM
      obtain ⟨rfl, rfl⟩ : stdK 3 0 m = M ∧ 0 = E := Prod.mk.inj hM
      clear HR HM hR hM
      go_wp2
      have hsb := blk_new wr (.cells #[.string ⟨#[115, 116, 97, 110, 100, 105, 110]⟩, .string ⟨#[115, 116, 97, 110, 100, 111, 117, 116]⟩, .string ⟨#[115, 116, 97, 110, 100, 98, 97, 99, 107]⟩] 9)
      have hno : κ wr.heap.size = .no := HS.out.1.top _ (Nat.le_refl _)
      have HS1 := Aside0.mk (HS.out.below (below_alloc (Below.refl _ _) (.cells #[.string ⟨#[115, 116, 97, 110, 100, 105, 110]⟩, .string ⟨#[115, 116, 97, 110, 100, 111, 117, 116]⟩, .string ⟨#[115, 116, 97, 110, 100, 98, 97, 99, 107]⟩] 9)))
      generalize wr.alloc (.cells #[.string ⟨#[115, 116, 97, 110, 100, 105, 110]⟩, .string ⟨#[115, 116, 97, 110, 100, 111, 117, 116]⟩, .string ⟨#[115, 116, 97, 110, 100, 98, 97, 99, 107]⟩] 9) = W2 at *
      generalize wr.heap.size = sb at *
      have HSB : Aside0 (κ sb = .no ∧ sb < W2.heap.size ∧ W2.heap[sb]? = some (.cells #[.string (nameAt 0), .string (nameAt 1), .string (nameAt 2)] 9 (0, 0))) := ⟨⟨hno, blk_lt hsb, hsb⟩⟩
      have hlen2 : m.books.length ≤ 64 + 0 := by omega
      have hf0 : m.files.length ≤ 0 := by omega
      clear HS hsb hno
      go_loopw [53] (fun i wx => ∃ (j : Nat) (κ : Nat → Tag) (L : Lay) (m1 : MW), j ≤ 3 ∧ i = .int .i64 j ∧ L.p = p ∧ m1.books.length ≤ 64 + j ∧ m1.files.length ≤ j ∧ Aside0 (St κ0 w κ L wx m1) ∧ Aside0 (κ sb = .no ∧ sb < wx.heap.size ∧ wx.heap[sb]? = some (.cells #[.string (nameAt 0), .string (nameAt 1), .string (nameAt 2)] 9 (0, 0))) ∧ Aside0 (stdK (3 - j) j m1 = stdK 3 0 m)) (fun i _ => 3 - (intOf i).toNat)
      case atStart => exact ⟨0, κ, L, m, by omega, rfl, hL, hlen2, hf0, HS1, HSB, ⟨rfl⟩⟩
      case round =>
        obtain ⟨j, κ1, L1, m1, hj, rfl, hL1, hb1, hf1, HS2, HSB2, HK⟩ := hrel
        clear HSB HS1 hlen2 hf0
        by_cases hlt2 : j < 3
        · obtain ⟨s, hs⟩ : ∃ s, s = nameAt j := ⟨_, rfl⟩
          have hc : wr.cell? ⟨sb, j, none⟩ = some (.string s) := by
            rw [hs]
            have : j = 0 ∨ j = 1 ∨ j = 2 := by omega
            rcases this with rfl | rfl | rfl <;> exact (blk_cell HSB2.out.2.2 _).trans rfl
          have HF := Aside0.mk (find_walk s wr HS2.out.1 _ rfl)
          have HK' : Aside0 (stdK (3 - (j + 1)) (j + 1) (m1.std j s) = stdK 3 0 m) := ⟨by
            rw [← HK.out, hs]
            have : j = 0 ∨ j = 1 ∨ j = 2 := by omega
            rcases this with rfl | rfl | rfl <;> rfl⟩
          unfold pt at HF
          rw [hL1] at HF
          obtain ⟨pa, hpa⟩ : ∃ pa, findV L1 (m1.find s) = .pointer pa := by cases m1.find s <;> exact ⟨_, rfl⟩
          rw [hpa] at HF
          have HPA := Aside0.mk hpa
          have HKK := HK'
          clear HK hs hpa
          go_wp2_with fail
          refine HF.out.mono ?_
          rintro e w' ⟨rfl, rfl⟩
          go_upto_if 62 with fail
          go_cut [10] (fun s10 wx => ∃ (κ2 : Nat → Tag) (L2 : Lay) (m2 : MW) (b : MBk), L2.p = p ∧ s10 = .pointer (some ⟨L2.bk b.id, 0, none⟩) ∧ b ∈ m2.books ∧ m2.books.length ≤ 64 + j + 1 ∧ m2.files.length ≤ j ∧ Aside0 (St κ0 w κ2 L2 wx m2) ∧ Aside0 (κ2 sb = .no ∧ sb < wx.heap.size ∧ wx.heap[sb]? = some (.cells #[.string (nameAt 0), .string (nameAt 1), .string (nameAt 2)] 9 (0, 0))) ∧ Aside0 (m2.stdF b = m1.std j s))
          case first =>
            cases hfind : m1.find s with
            | some b =>
              have hb := (MW.find_mem hfind).1
              have HB := Aside0.mk hb
              have HD : Aside0 (m1.stdF b = m1.std j s) := ⟨by unfold MW.std; rw [hfind]⟩
              obtain rfl : some ⟨L1.bk b.id, 0, none⟩ = pa := by have := HPA.out; rw [hfind] at this; exact Value.pointer.inj this
              clear hfind hb HK' hc HPA
              go_wp2
              go_meet
              exact ⟨κ1, L1, m1, b, hL1, rfl, HB.out, by omega, hf1, HS2, HSB2, HD⟩
            | none =>
              have HD : Aside0 ((m1.addB s [] (decide (0 < j))).stdF ⟨m1.next, s, [], decide (0 < j)⟩ = m1.std j s) := ⟨by unfold MW.std; rw [hfind]⟩
              obtain ⟨g, cap1, WE, κ', L', hr, ⟨zE, fE⟩, hLp, hst⟩ := std_add s (decide (0 < j)) HS2.out.1 (by omega)
              have hz := (HS2.out.1.head).1.1
              rw [hL1] at hz zE fE hst
              have HE := Aside0.mk (HS2.out.then hst)
              have hplt : p < wr.heap.size := block_lt_of_cell hz
              have hpne : p ≠ wr.heap.size := by omega
              have HSB3 := Aside0.mk (nx_keep hst.2 HSB2.out)
              have HRUN := Aside0.mk hr
              obtain rfl : none = pa := by have := HPA.out; rw [hfind] at this; exact Value.pointer.inj this
              clear hr hst hfind HK' hc HPA
              go_wp2_with (at_builtin; refine Lib.wpList_append_run _ rfl _ _ _ _ rfl _ _ rfl rfl _ _ HRUN.out ?_)
              go_meet
              exact ⟨κ', L', m1.addB s [] (decide (0 < j)), ⟨m1.next, s, [], decide (0 < j)⟩, hLp.1.trans hL1, by rw [show L'.bk m1.next = wr.heap.size from hLp.2], List.mem_append_right _ (List.mem_singleton.2 rfl), by show (m1.books ++ [_]).length ≤ _; rw [List.length_append, List.length_singleton]; omega, hf1, HE, HSB3, HD⟩
          case rest =>
            obtain ⟨κ2, L2, m2, b, hL2, rfl, hb, hb2, hf2, HS3, HSB3, HD⟩ := hcut
            have HB := Aside0.mk hb
            have HA2 := Aside0.mk (add_walk wc HS3.out.1 hb (by omega))
            have hlen3 : (m2.addF b.id).files.length = m2.files.length + 1 := by
              obtain ⟨l1, l2, e1, e2, _⟩ := add_split HS3.out.1.ok b.id
              rw [e2, e1]; simp only [List.length_append, List.length_cons]; omega
            have hmem := Aside0.mk (addF_mem HS3.out.1.ok b.id)
            unfold pt at HA2
            rw [hL2] at HA2
            clear hb HS2 HSB2 HK' hc
            go_wp2_with fail
            refine HA2.out.mono ?_
            rintro e w4 ⟨κ3, L3, hp3, hbk3, htv3, _, rfl, hst⟩
            have HS4 := Aside0.mk (HS3.out.then hst)
            have HSB4 := Aside0.mk (nx_keep hst.2 HSB3.out)
            clear HS3 HSB3 HA2
            have zn : w4.cell? ⟨L3.fl m2.addN, 0, none⟩ = some (.int .i64 m2.addN) := (HS4.out.1.fc hmem.out).1.1
            by_cases h2 : m2.addN = 2
            · have hbm : b ∈ (m2.addF b.id).books := HB.out
              have zt := (HS4.out.1.bc hbm).1.2.1
              obtain ⟨ta, tc, htl, _, _, _⟩ := (HS4.out.1.tx b hbm).sl
              rw [htl, hbk3] at zt
              have hbl := HS4.out.1.ok.tx b hbm
              have hst5 := HS4.out.1.put23 hmem.out b.text.length 2 hbl
              have q2 : w4.cell? ⟨L3.fl m2.addN, 2, none⟩ = some (.int .i64 0) := (HS4.out.1.fc hmem.out).1.2.2.1
              have q3 : w4.cell? ⟨L3.fl m2.addN, 3, none⟩ = some (.int .i64 0) := (HS4.out.1.fc hmem.out).1.2.2.2
              have f2 : w4.frozen? ⟨L3.fl m2.addN, 2, none⟩ = false := (HS4.out.1.fc hmem.out).2.1
              have f3 : w4.frozen? ⟨L3.fl m2.addN, 3, none⟩ = false := (HS4.out.1.fc hmem.out).2.2
              have HS5 : Aside0 (St κ0 w κ3 L3 ((w4.setCell ⟨L3.fl m2.addN, 2, none⟩ (.int .i64 b.text.length)).setCell ⟨L3.fl m2.addN, 3, none⟩ (.int .i64 2)) ((m2.addF b.id).setF { freshF m2.addN b.id with pos := b.text.length, mood := 2 })) := ⟨HS4.out.then hst5⟩
              have HSB5 : Aside0 (κ3 sb = .no ∧ sb < ((w4.setCell ⟨L3.fl m2.addN, 2, none⟩ (.int .i64 b.text.length)).setCell ⟨L3.fl m2.addN, 3, none⟩ (.int .i64 2)).heap.size ∧ ((w4.setCell ⟨L3.fl m2.addN, 2, none⟩ (.int .i64 b.text.length)).setCell ⟨L3.fl m2.addN, 3, none⟩ (.int .i64 2)).heap[sb]? = some (.cells #[.string (nameAt 0), .string (nameAt 1), .string (nameAt 2)] 9 (0, 0))) := ⟨nx_keep hst5.2 HSB4.out⟩
              have HD2 : Aside0 ((m2.addF b.id).setF { freshF m2.addN b.id with pos := b.text.length, mood := 2 } = m1.std j s) := ⟨by rw [← HD.out]; unfold MW.stdF; rw [if_pos h2]⟩
              have hgb : L2.bk b.id ≠ L3.fl m2.addN := by
                have q1 := HS4.out.1.kb b hbm
                rw [hbk3] at q1
                exact tne q1 (HS4.out.1.kf _ hmem.out) Tag.noConfusion
              clear htl hst hst5 HS4 HSB4 hbm
              generalize L3.fl m2.addN = fb at *
              go_wp2
              go_roundw
              case rel => exact ⟨j + 1, κ3, L3, _, by omega, by go_num, hp3, by show m2.books.length ≤ _; omega, by show ((m2.addF b.id).files.map _).length ≤ _; rw [List.length_map]; omega, HS5, HSB5, ⟨by rw [HD2.out]; exact HKK.out⟩⟩
              case measure => simp [intOf]; omega
            · have HD2 : Aside0 (m2.addF b.id = m1.std j s) := ⟨by rw [← HD.out]; unfold MW.stdF; rw [if_neg h2]⟩
              have h2' : ¬ ((m2.addN : Int) = 2) := by omega
              clear hst HD
              go_wp2
              go_roundw
              case rel => exact ⟨j + 1, κ3, L3, m2.addF b.id, by omega, by go_num, hp3, by show m2.books.length ≤ _; omega, by omega, HS4, HSB4, ⟨by rw [HD2.out]; exact HKK.out⟩⟩
              case measure => simp [intOf]; omega
        · obtain rfl : j = 3 := by omega
          have hm : m1 = stdK 3 0 m := HK.out
          go_wp2
          go_ret2
          exact .inl ⟨rfl, κ1, L1, by unfold pt; rw [hL1]; rfl, by rw [← hm]; exact HS2.out⟩
end Go.Proofs.YtonmdifmlpfcpaaDoor.PB
