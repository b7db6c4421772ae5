import Derived.StillTailTactics
import Derived.ArgAppend
import Derived.Below
import Derived.BigQuiet
import Derived.Deep.AppendLies
import Derived.Deep.CutBlock
import Derived.Deep.DeepCutAuto
import Derived.Deep.Draws
import Derived.Deep.LoopGhost
import Derived.Deep.OwnRows
import Derived.Deep.QuietTactic
import Derived.Deep.RegionHeld3
import Derived.KernelRfl
import Derived.Laws.Bits64b
import Derived.Laws.BitsLemmas
import Derived.Laws.BytesArg
import Derived.Laws.Externs
import Derived.Laws.IdiomCopy
import Derived.Laws.MakeOwn
import Derived.Laws.MathBits
import Derived.Laws.OwnMore
import Derived.Laws.Rows
import Derived.Laws.Slices
import Derived.Lib.AppendStr
import Derived.Lib.ConvBytes
import Derived.Maps.AppendAt
import Derived.OrdersHeld
import Derived.OwnWalk
import Derived.RowKit
import Derived.RowKit3
import Derived.Tactics
import Derived.Test.YtonmdifmlpfcpaaProg
import Derived.WalkKit
import Derived.WideLaws
import Derived.Lib.Walk
import Derived.Lib.SliceRun
import Derived.Lib.JoinLaws
import Derived.Lib.AppendZeros
import Derived.Lib.Overlaps
import Derived.Lib.AppendZerosOnto
import Derived.Shelf.RegionOpenPlain
import Derived.Shelf.Spec.SlicesInsert
import Derived.Deep.RegionLaw
import Derived.Lib.BufferRead
import Derived.Laws.IdiomStrings
import Derived.Test.YtonmdifmlpfcpaaWWords
import Derived.Test.YtonmdifmlpfcpaaWLast
import Derived.Test.YtonmdifmlpfcpaaWTab
import Derived.Test.YtonmdifmlpfcpaaWFour
import Derived.Test.YtonmdifmlpfcpaaWQPut
import Derived.Test.YtonmdifmlpfcpaaWApart
import Derived.Test.YtonmdifmlpfcpaaWArr
import Derived.Test.YtonmdifmlpfcpaaWZeros
import Derived.Test.YtonmdifmlpfcpaaWFoot
import Derived.Test.YtonmdifmlpfcpaaWKept
import Derived.Test.YtonmdifmlpfcpaaWShare
import Derived.Test.YtonmdifmlpfcpaaWN
import Derived.Test.YtonmdifmlpfcpaaWFootNe
import Derived.Test.YtonmdifmlpfcpaaWAt
import Derived.Test.YtonmdifmlpfcpaaWEqStruct
import Derived.Test.YtonmdifmlpfcpaaWRepsOne
import Derived.Test.YtonmdifmlpfcpaaWInv
import Derived.Test.YtonmdifmlpfcpaaWInvWords
import Derived.Test.YtonmdifmlpfcpaaWGuard
import Derived.Test.YtonmdifmlpfcpaaWNEv
import Derived.Test.YtonmdifmlpfcpaaWMore
import Derived.Test.YtonmdifmlpfcpaaNwF
namespace Go.Proofs.Ytonmdifmlpfcpaa.PB
open Go.RowKit Go.Proofs.YtonmdifmlpfcpaaW.PrintWords Go.Proofs.YtonmdifmlpfcpaaW.PrintLast Go.Proofs.YtonmdifmlpfcpaaW.PrintMore
set_option linter.unusedVariables false
set_option linter.unusedSimpArgs false
set_option maxRecDepth 100000
set_option maxHeartbeats 1000000
def r17_T : Bool × List (List Nat × List Nat) := (true, [([], []), ([], []), ([1], [1]), ([2], [2]), ([3], [3]), ([], []), ([], []), ([5, 6], [5, 6]), ([7], [7]), ([], []), ([9], [9]), ([8, 10], [8, 10]), ([11], [11]), ([4, 12], [4, 12]), ([0, 0, 1, 2, 3, 4, 5, 6, 7, 8, 9, 10, 11, 12, 13], [0]), ([14, 0, 1, 2, 3, 4, 5, 6, 7, 8, 9, 10, 11, 12, 13], [14]), ([15, 13, 13, 0, 1, 2, 3, 4, 5, 6, 7, 8, 9, 10, 11, 12, 13], [13, 15])])
def r17_B : List Nat := [0, 0, 2, 6, 14, 0, 0, 96, 224, 0, 512, 2016, 4064, 8190, 16383, 32767, 65535]
def r20_T : Bool × List (List Nat × List Nat) := (true, [([], []), ([0], [0]), ([1], [1]), ([2], [2]), ([], []), ([], []), ([5], [5]), ([3, 4, 0, 1, 2, 3, 4, 5, 6], [3, 4]), ([7, 6, 6, 0, 1, 2, 3, 4, 5, 6], [6, 7])])
def r20_B : List Nat := [0, 1, 3, 7, 0, 0, 32, 127, 255]
theorem stdK_op (m : RW) : ((RW.stdK 3 0 m).fs 1).op = true := by
  have h2 : ∀ (m : RW) (s : ByteArray), ((m.std 2 s).fs 1) = m.fs 1 := fun m s => by
    unfold RW.std
    split
    · next b _ => show (if (1 : Nat) = 2 then freshR b else m.fs 1) = m.fs 1; exact if_neg (by decide)
    · show (if (1 : Nat) = 2 then freshR m.list.length else m.fs 1) = m.fs 1; exact if_neg (by decide)
  have h1 : ∀ (m : RW) (s : ByteArray), ((m.std 1 s).fs 1).op = true := fun m s => by
    unfold RW.std
    split
    · show (if 1 = 1 then freshR _ else m.fs 1).op = true; rw [if_pos rfl]; rfl
    · show (if 1 = 1 then freshR _ else _).op = true; rw [if_pos rfl]; rfl
  show (((((m.std 0 (nameAt 0)).std 1 (nameAt 1)).std 2 (nameAt 2)).fs 1).op) = true
  rw [h2]
  exact h1 _ _
theorem fidx_none (m : RW) (s : ByteArray) (h : m.find s = none) : fidx (m.find s) = -1 := by rw [h]; rfl
def r9_T : Bool × List (List Nat × List Nat) := (true, [([], []), ([], []), ([0, 1], [0, 1]), ([], []), ([2, 3], [2, 3]), ([4], [4]), ([5, 2, 0, 1, 2, 3, 4, 5], [5])])
def r9_B : List Nat := [0, 0, 3, 0, 15, 31, 63]
theorem checkAll_ok : ∀ (pre l : List ABk), checkAll pre l = 0 → ∀ x ∈ l, x.text.size ≤ 1048576
  | _, [], _, x, hx => absurd hx List.not_mem_nil
  | pre, y :: r, h, x, hx => by
    unfold checkAll at h
    split at h
    · next h0 =>
      rcases List.mem_cons.1 hx with rfl | hx
      · exact checkR_ok h0
      · exact checkAll_ok _ r h x hx
    · omega
/-- the append of all books, wherever it comes -/
def AppAll (w : World) (a : Option Addr) (bs : List ABk) (cap : Nat) : Prop := ∀ (W : World) (q : Nat), Below w.heap.size w W → W.ownsRow w.heap.size 26 3 (.slice (some ⟨q, 0, none⟩) 0 0) 0 [] → ∃ va vn vc W', (Builtin.append_ #[22, 22] 22 #[.slice (some ⟨q, 0, none⟩) 0 0, .slice a bs.length cap]).run Try.prog W = .ok (.slice va vn vc) W' ∧ W'.ownsRow w.heap.size 26 3 (.slice va vn vc) bs.length (bs.flatMap ABk.cl) ∧ W.grownBy W' (some q) ∧ ((Value.slice va vn vc).ownBlock = some q ∨ (Value.slice va vn vc).ownBlock = some W.heap.size) ∧ Below w.heap.size w W'
theorem appAll {w : World} {a : Option Addr} {bs : List ABk} {cap : Nat} (hA : AAt w a bs) (ha : a = none → bs = [] ∧ cap = 0) (hl : bs.length ≤ 64) : AppAll w a bs cap := by
  intro W q hb ho
  obtain ⟨v', W', h1, h2, h3, h4⟩ := append_all bs a cap W (hA.below hb) ha _ 0 [] w.heap.size hb.size ho (by omega) 22
  rw [Nat.zero_add, List.nil_append] at h2
  have hsh : ∃ a n c, v' = .slice a n c := by
    rcases h2.2 with ⟨h, _⟩ | ⟨g, c, cur, h, _⟩
    · exact ⟨_, _, _, h⟩
    · exact ⟨_, _, _, h⟩
  obtain ⟨va, vn, vc, rfl⟩ := hsh
  exact ⟨va, vn, vc, W', h1, h2, h3, h4, hb.grown h3 hb.size (fun q hq => (ho.lt q hq).1)⟩
theorem r_new (bs : List ABk) (a : Option Addr) (cap : Nat) (w : World) (hn : ∀ x ∈ bs, x.name.size ≤ 9223372036854775807 ∧ x.text.size ≤ 9223372036854775807) (hlen : bs.length ≤ 9223372036854775807) (hA : AAt w a bs) (ha : a = none → bs = [] ∧ cap = 0) (hcap : bs.length ≤ cap) (hcm : cap ≤ maxLen) (M : RW) (E : Nat) (hr : rnewR bs = (M, E)) :
    Calls Try.prog 10 #[.slice a bs.length cap] w (RNewPost w M E) := by
  unfold rnewR at hr
  by_cases hbig : 64 < bs.length
  · rw [if_pos hbig] at hr
    obtain ⟨-, rfl⟩ := Prod.mk.inj hr
    have hbig' : (64 : Int) < (bs.length : Int) := by omega
    clear hA hr
    go_enter Try.func10, Try.ntmps10
    go_wp2
    go_ret2
    exact .inr ⟨by decide, rfl, Below.refl _ _⟩
  rw [if_neg hbig] at hr
  have hlen : bs.length ≤ 64 := by omega
  have HM := Aside0.mk hr
  clear hr
  have HA := Aside0.mk hA
  have HN := Aside0.mk hn
  have HCA := Aside0.mk ha
  have hcm' : cap ≤ 9223372036854775807 := hcm
  have hl' : ¬ (64 < bs.length) := by omega
  have HB0 := Aside0.mk (Below.refl w.heap.size w)
  clear hA hn hcm ha
  go_enter Try.func10, Try.ntmps10
  go_wp2
  go_loopw [4] (fun i wr => ∃ (k : Nat), k ≤ bs.length ∧ i = .int .i64 k ∧ Aside0 (Below w.heap.size w wr) ∧ Aside0 (checkAll (bs.take k) (bs.drop k) = checkAll [] bs)) (fun i _ => bs.length - (intOf i).toNat)
  case atStart => exact ⟨0, Nat.zero_le _, rfl, HB0, ⟨rfl⟩⟩
  case round =>
    obtain ⟨k, hk, rfl, HS, HR⟩ := hrel
    by_cases hlt : k < bs.length
    · have hc := (HA.out.below HS.out) k hlt
      obtain ⟨g, o, rfl, h0, h1, h2⟩ := hc
      have hmem := Aside0.mk (HN.out _ (List.getElem_mem hlt))
      have hsn : bs.drop k = bs[k] :: bs.drop (k + 1) := List.drop_eq_getElem_cons hlt
      have hst : bs.take (k + 1) = bs.take k ++ [bs[k]] := List.take_succ_eq_append_getElem hlt
      rw [hsn] at HR
      have HR' : Aside0 ((match checkR bs[k] (bs.take k) with | 0 => checkAll (bs.take (k + 1)) (bs.drop (k + 1)) | e + 1 => e + 1) = checkAll [] bs) := ⟨by rw [hst]; exact HR.out⟩
      clear hsn hst HR
      generalize bs[k] = x at *
      have htl : (bs.take k).length = k := by rw [List.length_take]; omega
      obtain ⟨R, hR⟩ : ∃ R, checkR x (bs.take k) = R := ⟨_, rfl⟩
      have HCK := Aside0.mk (fun (W : World) (hW : Below w.heap.size w W) => r_check x (bs.take k) (some ⟨g, o, none⟩) cap W hmem.out.1 hmem.out.2 (by omega) ((HA.out.below hW).take k) R hR)
      rw [htl] at HCK
      rw [hR] at HR'
      clear htl
      go_upto_region 6 with fail
      go_cut [5] (fun s5 wx => s5 = .int .i64 R ∧ Aside0 (Below w.heap.size w wx))
      case first =>
        go_region_with ((go_at_call 28; refine (HCK.out _ (below_drew1 HS.out)).mono ?_; rintro e w2 ⟨rfl, hb⟩))
        all_goals (go_wp2; go_meet)
        all_goals exact ⟨rfl, ⟨below_step (below_drew1 HS.out) hb⟩⟩
      case rest =>
        obtain ⟨rfl, HX⟩ := hcut
        clear h0 h1 h2 HCK HS
        cases R with
        | succ e =>
          have hne : ¬ ((e + 1 : Nat) : Int) = 0 := by omega
          obtain rfl : e + 1 = E := by
            have := HM.out; rw [← HR'.out] at this; exact (Prod.mk.inj this).2
          go_wp2
          go_ret2
          exact .inr ⟨by omega, rfl, HX.out⟩
        | zero =>
          go_wp2
          go_roundw
          case rel => exact ⟨k + 1, by omega, by go_num, HX, HR'⟩
          case measure => simp [intOf]; omega
    · obtain rfl : k = bs.length := by omega
      have hR := HR.out
      rw [List.drop_length] at hR
      have hM := HM.out
      rw [← hR] at hM
      obtain ⟨rfl, rfl⟩ : (RW.stdK 3 0 (rstart bs)).outF = M ∧ 0 = E := Prod.mk.inj hM
      have HC0 : Aside0 (checkAll [] bs = 0) := ⟨hR.symm⟩
      clear HR HM hR hM
      have hck : ∀ b ∈ bs, b.text.size ≤ 1048576 := checkAll_ok [] bs HC0.out
      have HCK := Aside0.mk hck
      have HAP := Aside0.mk (appAll HA.out HCA.out hlen)
      have hbd := below_drew1 HS.out
      clear hck
      go_upto_region 9 with fail
      go_cut [6] (fun s6 wx => ∃ p v o, s6 = .pointer (some ⟨p, 0, none⟩) ∧ Aside0 (Rs0 w wx p v o bs))
      case first =>
        refine start_ (n := 7) (S := fun _ => True) (ds := []) (bl 7 0) (by kernel_rfl) (by kernel_rfl) (by kernel_rfl) trivial (fun hHeld => ?_)
        refine with_tabW (T := r9_T) (B := r9_B) (by as_aux_lemma => kernel_rfl) (by as_aux_lemma => kernel_rfl) (fun HT_ HW_ => ?_)
        generalize wr.drew = wd at *
        have hds := hbd.size
        refine pu 1 31 (bl 7 0x2) HT_ ?_
        refine two_ (i := 0) (j := 3) (Ni := some 30) (Nj := some 33) (bl 7 0x3) (bl 7 0xa) rfl rfl rfl rfl (by as_aux_lemma => kernel_rfl) (by decide) (by decide) (fun K hK => ?_) (fun K hK => ?_)
        · rw [if_pos (by as_aux_lemma => kernel_rfl)]
          go_simp
          refine hK.out _ _ trivial (fun hHeld => ?_)
          clear hK K
          have hbl0 := hbd.alloc hds (.cells #[] 26)
          have hlit := World.ownsRow_lit (base := w.heap.size) (e := 26) (size := 3) wd #[] 0 hds (Nat.zero_le _) rfl
          refine two_ (i := 2) (j := 3) (Ni := some 32) (Nj := some 33) (bl 7 0x7) (bl 7 0xb) rfl rfl rfl rfl (by as_aux_lemma => kernel_rfl) (by decide) (by decide) (fun K hK => ?_) (fun K hK => ?_)
          · rw [if_pos (by as_aux_lemma => kernel_rfl)]
            obtain ⟨va, vn, vc, W1, hrun, hrow, hgr, hvb, hbl⟩ := HAP.out (wd.alloc (.cells #[] 26)) (wd.heap.size) (hbl0) (hlit)
            refine Lib.wp_append_run _ (.tmp 30) (.tmp 31) 22 22 rfl (.slice (some ⟨wd.heap.size, 0, none⟩) 0 0) (.slice a bs.length cap) ?_ ?_ (.slice va vn vc) W1 ?_ ?_
            · rfl
            · rfl
            · exact hrun
            refine hK.out _ _ trivial (fun hHeld => ?_)
            clear hK K
            refine one_ (i := 3) (N := some 33) (bl 7 0xf) rfl rfl (one_of HT_.out (by as_aux_lemma => kernel_rfl)) (by decide) (fun K hK => ?_)
            rw [if_pos (by as_aux_lemma => kernel_rfl)]
            refine wp_make_any _ (.const (.int .i64 20)) (.const (.int .i64 20)) 70 rfl (.int .i64 20) (.int .i64 20) rfl rfl _ _ (make20 _) ?_
            refine hK.out _ _ trivial (fun hHeld => ?_)
            clear hK K
            have hvl := fun g hg => (hrow.lt g hg).2
            refine pu 4 34 (bl 7 0x1f) HT_ ?_
            refine one_ (i := 5) (N := some 35) (bl 7 0x3f) rfl rfl (one_of HT_.out (by as_aux_lemma => kernel_rfl)) (by decide) (fun K hK => ?_)
            rw [if_pos (by as_aux_lemma => kernel_rfl)]
            go_simp
            refine hK.out _ _ trivial (fun hHeld => ?_)
            clear hK K
            refine pu 6 6 (bl 7 0x7f) HT_ ?_
            refine done_ (done_of HT_.out (by as_aux_lemma => kernel_rfl)) ?_
            go_wp2
            go_meet
            exact ⟨_, .slice va vn vc, W1.heap.size, rfl, ⟨by have := rs0_mk (hbl.alloc hbl.size _) (hrow.alloc _) (fun g hg => by have := hvl g hg; omega) (blk_new _ _) (hbl.size); rw [show (W1.alloc (.cells zFi 76)).heap.size = W1.heap.size + 1 by simp] at this; exact this⟩⟩
          · rw [if_pos (by as_aux_lemma => kernel_rfl)]
            refine wp_make_any _ (.const (.int .i64 20)) (.const (.int .i64 20)) 70 rfl (.int .i64 20) (.int .i64 20) rfl rfl _ _ (make20 _) ?_
            refine hK.out _ _ trivial (fun hHeld => ?_)
            clear hK K
            refine one_ (i := 2) (N := some 32) (bl 7 0xf) rfl rfl (one_of HT_.out (by as_aux_lemma => kernel_rfl)) (by decide) (fun K hK => ?_)
            rw [if_pos (by as_aux_lemma => kernel_rfl)]
            have hsz1 : (wd.alloc (.cells #[] 26)).heap.size = wd.heap.size + 1 := by simp
            have hsz2 : ((wd.alloc (.cells #[] 26)).alloc (.cells zFi 76)).heap.size = wd.heap.size + 2 := by simp
            obtain ⟨va, vn, vc, W1, hrun, hrow, hgr, hvb, hbl⟩ := HAP.out ((wd.alloc (.cells #[] 26)).alloc (.cells zFi 76)) (wd.heap.size) (hbl0.alloc (by rw [hsz1]; omega) _) (hlit.alloc _)
            refine Lib.wp_append_run _ (.tmp 30) (.tmp 31) 22 22 rfl (.slice (some ⟨wd.heap.size, 0, none⟩) 0 0) (.slice a bs.length cap) ?_ ?_ (.slice va vn vc) W1 ?_ ?_
            · rfl
            · rfl
            · exact hrun
            refine hK.out _ _ trivial (fun hHeld => ?_)
            clear hK K
            refine pu 4 34 (bl 7 0x1f) HT_ ?_
            refine one_ (i := 5) (N := some 35) (bl 7 0x3f) rfl rfl (one_of HT_.out (by as_aux_lemma => kernel_rfl)) (by decide) (fun K hK => ?_)
            rw [if_pos (by as_aux_lemma => kernel_rfl)]
            go_simp
            refine hK.out _ _ trivial (fun hHeld => ?_)
            clear hK K
            refine pu 6 6 (bl 7 0x7f) HT_ ?_
            refine done_ (done_of HT_.out (by as_aux_lemma => kernel_rfl)) ?_
            go_wp2
            go_meet
            exact ⟨_, .slice va vn vc, wd.heap.size + 1, rfl, ⟨rs0_mk (hbl) (hrow) (fun g hg => by rcases hvb with h | h <;> (rw [hg] at h; obtain rfl := Option.some.inj h; omega)) ((hgr.block _ (by rw [hsz2]; omega) (by intro h; have := Option.some.inj h; omega)).trans (by have := blk_new (wd.alloc (.cells #[] 26)) (.cells zFi 76); rw [hsz1] at this; exact this)) (by omega)⟩⟩
        · rw [if_pos (by as_aux_lemma => kernel_rfl)]
          refine wp_make_any _ (.const (.int .i64 20)) (.const (.int .i64 20)) 70 rfl (.int .i64 20) (.int .i64 20) rfl rfl _ _ (make20 _) ?_
          refine hK.out _ _ trivial (fun hHeld => ?_)
          clear hK K
          have hsz1 : (wd.alloc (.cells zFi 76)).heap.size = wd.heap.size + 1 := by simp
          have hbl0 := hbd.alloc hds (.cells zFi 76)
          have hlit := World.ownsRow_lit (base := w.heap.size) (e := 26) (size := 3) (wd.alloc (.cells zFi 76)) #[] 0 (by rw [hsz1]; omega) (Nat.zero_le _) rfl
          rw [hsz1] at hlit
          refine one_ (i := 0) (N := some 30) (bl 7 0xb) rfl rfl (one_of HT_.out (by as_aux_lemma => kernel_rfl)) (by decide) (fun K hK => ?_)
          rw [if_pos (by as_aux_lemma => kernel_rfl)]
          go_simp
          refine hK.out _ _ trivial (fun hHeld => ?_)
          clear hK K
          have hsz2 : ((wd.alloc (.cells zFi 76)).alloc (.cells #[] 26)).heap.size = wd.heap.size + 2 := by simp
          refine one_ (i := 2) (N := some 32) (bl 7 0xf) rfl rfl (one_of HT_.out (by as_aux_lemma => kernel_rfl)) (by decide) (fun K hK => ?_)
          rw [if_pos (by as_aux_lemma => kernel_rfl)]
          obtain ⟨va, vn, vc, W1, hrun, hrow, hgr, hvb, hbl⟩ := HAP.out ((wd.alloc (.cells zFi 76)).alloc (.cells #[] 26)) (wd.heap.size + 1) (hbl0.alloc (by rw [hsz1]; omega) _) (hlit)
          refine Lib.wp_append_run _ (.tmp 30) (.tmp 31) 22 22 rfl (.slice (some ⟨wd.heap.size + 1, 0, none⟩) 0 0) (.slice a bs.length cap) ?_ ?_ (.slice va vn vc) W1 ?_ ?_
          · rfl
          · rfl
          · exact hrun
          refine hK.out _ _ trivial (fun hHeld => ?_)
          clear hK K
          refine pu 4 34 (bl 7 0x1f) HT_ ?_
          refine one_ (i := 5) (N := some 35) (bl 7 0x3f) rfl rfl (one_of HT_.out (by as_aux_lemma => kernel_rfl)) (by decide) (fun K hK => ?_)
          rw [if_pos (by as_aux_lemma => kernel_rfl)]
          go_simp
          refine hK.out _ _ trivial (fun hHeld => ?_)
          clear hK K
          refine pu 6 6 (bl 7 0x7f) HT_ ?_
          refine done_ (done_of HT_.out (by as_aux_lemma => kernel_rfl)) ?_
          go_wp2
          go_meet
          exact ⟨_, .slice va vn vc, wd.heap.size, rfl, ⟨rs0_mk (hbl) (hrow) (fun g hg => by rcases hvb with h | h <;> (rw [hg] at h; obtain rfl := Option.some.inj h; omega)) ((hgr.block _ (by rw [hsz2]; omega) (by intro h; have := Option.some.inj h; omega)).trans (blk_alloc (blk_new _ _) _)) (hds)⟩⟩
      case rest =>
        obtain ⟨p, v, o, rfl, HR0⟩ := hcut
        clear HAP HS
        have hpz : wc.heap[p]? = some (.cells #[v, .slice none 0 0, .slice (some ⟨o, 0, none⟩) 20 20] 73 (0, 0)) := HR0.out.hp
        have HPZ := Aside0.mk hpz
        have y1 : wc.cell? ⟨p, 1, none⟩ = some (.slice none 0 0) := (blk_cell hpz 1).trans rfl
        have hplt := blk_lt hpz
        obtain ⟨ib, hib, hib0, hib1, hib2⟩ := info_parts infoBo
        have HIB := Aside0.mk (And.intro hib (And.intro hib0 (And.intro hib1 hib2)))
        clear hib hib0 hib1 hib2 hpz
        go_wp2_with (at_make; refine wpList_make_full _ rfl _ _ 71 rfl wc.heap.size 4 ib (.bool false) 1 Try.underlying71 HIB.out.1 HIB.out.2.1 HIB.out.2.2.1 _ _ _ _ bs.length rfl rfl rfl rfl (by rw [HIB.out.2.2.2]; omega) (by simp only [maxLen]; omega) (Nat.le_refl _) ?_; intro w2 hown hgr; have HGR := Aside0.mk hgr; have HOW := Aside0.mk hown; have x1 : w2.heap[p]? = some (.cells #[v, .slice none 0 0, .slice (some ⟨o, 0, none⟩) 20 20] 73 (0, 0)) := (hgr.block p hplt (by simp)).trans HPZ.out; have y1 : w2.cell? ⟨p, 1, none⟩ = some (.slice none 0 0) := (blk_cell x1 1).trans rfl; have y2 : w2.frozen? ⟨p, 1, none⟩ = false := blk_frozen x1 1; clear x1 hgr hown)
        have hst := rs0_done HR0.out hlen HCK.out rfl (by have := HOW.out; rw [Nat.mul_one] at this; exact this) HGR.out
        obtain ⟨κ1, L1, hL1, hst1⟩ : ∃ κ1 L1, L1.p = p ∧ RSt κ0 w κ1 L1 (w2.setCell ⟨p, 1, none⟩ (.slice (some ⟨wc.heap.size, 0, none⟩) bs.length bs.length)) (rstart bs) := ⟨_, _, rfl, hst⟩
        have hsz : (w2.setCell ⟨p, 1, none⟩ (.slice (some ⟨wc.heap.size, 0, none⟩) bs.length bs.length)).heap.size = w2.heap.size := by simp [World.setCell]
        clear hst y1 y2 hbd hplt
        generalize w2.setCell ⟨p, 1, none⟩ (.slice (some ⟨wc.heap.size, 0, none⟩) bs.length bs.length) = W1 at *
        have hsb := blk_new W1 (.cells #[.string ⟨#[115, 116, 97, 110, 100, 105, 110]⟩, .string ⟨#[115, 116, 97, 110, 100, 111, 117, 116]⟩, .string ⟨#[115, 116, 97, 110, 100, 98, 97, 99, 107]⟩] 9)
        have hno : κ1 W1.heap.size = .no := hst1.1.top _ (Nat.le_refl _)
        have HS1 := Aside0.mk (hst1.below (below_alloc (Below.refl _ _) (.cells #[.string ⟨#[115, 116, 97, 110, 100, 105, 110]⟩, .string ⟨#[115, 116, 97, 110, 100, 111, 117, 116]⟩, .string ⟨#[115, 116, 97, 110, 100, 98, 97, 99, 107]⟩] 9)))
        generalize W1.alloc (.cells #[.string ⟨#[115, 116, 97, 110, 100, 105, 110]⟩, .string ⟨#[115, 116, 97, 110, 100, 111, 117, 116]⟩, .string ⟨#[115, 116, 97, 110, 100, 98, 97, 99, 107]⟩] 9) = W2 at *
        rw [hsz] at hsb hno
        clear hsz
        generalize w2.heap.size = sb at *
        have HSB : Aside0 (κ1 sb = .no ∧ sb < W2.heap.size ∧ W2.heap[sb]? = some (.cells #[.string (nameAt 0), .string (nameAt 1), .string (nameAt 2)] 9 (0, 0))) := ⟨⟨hno, blk_lt hsb, hsb⟩⟩
        have hlen2 : (rstart bs).list.length ≤ 64 + 0 := hlen
        clear hsb hno hst1 HOW HGR HPZ HR0 HIB
        go_loopw [8] (fun i wx => ∃ (j : Nat) (κ : Nat → Tag) (L : RLay) (m1 : RW), j ≤ 3 ∧ i = .int .i64 j ∧ L.p = p ∧ m1.list.length ≤ 64 + j ∧ Aside0 (RSt κ0 w κ L wx m1) ∧ Aside0 (κ sb = .no ∧ sb < wx.heap.size ∧ wx.heap[sb]? = some (.cells #[.string (nameAt 0), .string (nameAt 1), .string (nameAt 2)] 9 (0, 0))) ∧ Aside0 (RW.stdK (3 - j) j m1 = RW.stdK 3 0 (rstart bs))) (fun i _ => 3 - (intOf i).toNat)
        case atStart => exact ⟨0, κ1, L1, rstart bs, by omega, rfl, hL1, hlen2, HS1, HSB, ⟨rfl⟩⟩
        case round =>
          obtain ⟨j, κ1, L1, m1, hj, rfl, hL1, hb1, HS2, HSB2, HK⟩ := hrel
          clear HSB HS1 hlen2
          by_cases hlt2 : j < 3
          · obtain ⟨s, hs⟩ : ∃ s, s = nameAt j := ⟨_, rfl⟩
            have hc : wr.cell? ⟨sb, j, none⟩ = some (.string s) := by
              rw [hs]
              have : j = 0 ∨ j = 1 ∨ j = 2 := by omega
              rcases this with rfl | rfl | rfl <;> exact (blk_cell HSB2.out.2.2 _).trans rfl
            have HF := Aside0.mk (r_find s wr HS2.out.1 _ rfl)
            have HK' : Aside0 (RW.stdK (3 - (j + 1)) (j + 1) (m1.std j s) = RW.stdK 3 0 (rstart bs)) := ⟨by
              rw [← HK.out, hs]
              have : j = 0 ∨ j = 1 ∨ j = 2 := by omega
              rcases this with rfl | rfl | rfl <;> rfl⟩
            unfold pt at HF
            rw [hL1] at HF
            have HKK := HK'
            have HS0 := Aside0.mk hs
            clear HK hs
            obtain ⟨r, hr⟩ : ∃ r, fidx (m1.find s) = r := ⟨_, rfl⟩
            rw [hr] at HF
            have HRR := Aside0.mk hr
            clear hr
            go_wp2_with fail
            refine HF.out.mono ?_
            rintro e w' ⟨rfl, rfl⟩
            go_upto_if 56 with fail
            go_cut [9] (fun s9 wx => ∃ (κ2 : Nat → Tag) (L2 : RLay) (m2 : RW) (b : Nat), L2.p = p ∧ s9 = .int .i64 b ∧ b < m2.list.length ∧ m2.list.length ≤ 64 + j + 1 ∧ Aside0 (RSt κ0 w κ2 L2 wx m2) ∧ Aside0 (κ2 sb = .no ∧ sb < wx.heap.size ∧ wx.heap[sb]? = some (.cells #[.string (nameAt 0), .string (nameAt 1), .string (nameAt 2)] 9 (0, 0))) ∧ Aside0 (m2.setF j (freshR b) = m1.std j s))
            case first =>
              cases hfind : m1.find s with
              | some b =>
                have hb : b < m1.list.length := by
                  unfold RW.find at hfind
                  obtain ⟨q, h1, h2, rfl, _⟩ := rfind_some hfind
                  omega
                have HD : Aside0 (m1.setF j (freshR b) = m1.std j s) := ⟨by unfold RW.std; rw [hfind]⟩
                obtain rfl : (b : Int) = r := by have := HRR.out; rw [hfind] at this; exact this
                clear hfind HK' hc HRR
                go_wp2
                go_meet
                exact ⟨κ1, L1, m1, b, hL1, rfl, hb, by omega, HS2, HSB2, HD⟩
              | none =>
                obtain rfl : -1 = r := by have := HRR.out; rw [hfind] at this; exact this
                have HD : Aside0 ((m1.addB ⟨s, ⟨#[]⟩, decide (0 < j)⟩).setF j (freshR m1.list.length) = m1.std j s) := ⟨by unfold RW.std; rw [hfind]⟩
                clear hfind HK' HRR
                have HSd := HS2.out.below (below_drew1 (Below.refl _ _))
                obtain ⟨a1, c1, wb, hr1, ⟨zE, fE⟩, zV, a2, c2, we, hr2, ⟨zG, fG⟩, κ', L', hLp, hLv, hst⟩ := r_addb HSd.1 ⟨s, ⟨#[]⟩, decide (0 < j)⟩ (by omega) (Nat.zero_le _)
                have hz0 := HSd.1.head.1.1
                rw [hL1] at hz0 zE fE zV zG fG hst hr2 hLp
                have hgl := HS2.out.1.ok.gn
                obtain ⟨av0, cv0, hv0⟩ := slice_form HS2.out.1.rg
                rw [hv0, hgl] at hr2 zV zG
                rw [show (wb.setCell ⟨p, 0, none⟩ (.slice a1 (m1.list.length + 1) c1)).heap.size = wb.heap.size by simp [World.setCell]] at hr2
                have HRUN := Aside0.mk hr1
                have HRUN2 := Aside0.mk hr2
                have HSB3 := Aside0.mk (nx_keep hst.2 (nx_keep (Below.nx κ1 (below_drew1 (Below.refl _ _))) HSB2.out))
                have HE := Aside0.mk (HSd.then hst)
                have hcd : wr.drew.cell? ⟨sb, j, none⟩ = some (.string s) := hc
                have hLVL : Aside0 (L'.vl = .slice a1 (m1.list.length + 1) c1) := ⟨hLv⟩
                have zW : we.cell? ⟨p, 0, none⟩ = some (.slice a1 (m1.list.length + 1) c1) := by
                  have := hst.1.head.1.1
                  rw [hLp, hLv, World.cell?_setCell_other _ _ _ _ (by simp)] at this
                  exact this
                clear hv0 hgl HSd hr1 hr2 hst hLv
                go_upto_region 17 with fail
                refine start_ (n := 17) (S := fun w' => w'.cell? ⟨p, 0, none⟩ = some L1.vl ∧ w'.cell? ⟨sb, j, none⟩ = some (.string s)) (ds := [13, 16]) (bl 17 0) (by kernel_rfl) (by kernel_rfl) (by kernel_rfl) (⟨hz0, hcd⟩) (fun hHeld => ?_)
                refine with_tabW (T := r17_T) (B := r17_B) (by as_aux_lemma => kernel_rfl) (by as_aux_lemma => kernel_rfl) (fun HT_ HW_ => ?_)
                refine pu 0 57 (bl 17 0x1) HT_ ?_
                refine pu 1 58 (bl 17 0x3) HT_ ?_
                refine pu 2 59 (bl 17 0x7) HT_ ?_
                refine pu 3 60 (bl 17 0xf) HT_ ?_
                refine ta 4 61 (bl 17 0x1f) HT_ HW_ hHeld ?_
                refine pu 5 62 (bl 17 0x3f) HT_ ?_
                refine pu 6 63 (bl 17 0x7f) HT_ ?_
                refine pu 7 64 (bl 17 0xff) HT_ ?_
                refine ta 8 65 (bl 17 0x1ff) HT_ HW_ hHeld ?_
                refine pu 9 66 (bl 17 0x3ff) HT_ ?_
                refine pu 10 67 (bl 17 0x7ff) HT_ ?_
                refine pu 11 68 (bl 17 0xfff) HT_ ?_
                refine one_ (i := 12) (N := some 69) (bl 17 0x1fff) rfl rfl (one_of HT_.out (by as_aux_lemma => kernel_rfl)) (by decide) (fun K hK => ?_)
                rw [if_pos (by as_aux_lemma => kernel_rfl)]
                go_simp
                refine hK.out _ _ (⟨cell_al3 hz0, cell_al3 hcd⟩) (fun hHeld => ?_)
                clear hK K
                refine last_ (i := 13) (N := some 70) (bl 17 0x3fff) rfl rfl (one_of HT_.out (by as_aux_lemma => kernel_rfl)) (by decide) (fun K hK => ?_)
                rw [if_pos (by as_aux_lemma => kernel_rfl)]
                refine Lib.wp_append_run _ (.tmp 61) (.tmp 69) 22 22 rfl L1.vl (.slice (some ⟨wr.heap.size, 0, none⟩) 1 1) ?_ ?_ (.slice a1 (m1.list.length + 1) c1) wb ?_ ?_
                · rfl
                · rfl
                · exact HRUN.out
                refine hK.out _ _ ?_
                clear hK K
                refine pu 14 71 (bl 17 0x7fff) HT_ ?_
                refine pu 15 72 (bl 17 0xffff) HT_ ?_
                refine last_ (i := 16) (N := none) (bl 17 0x1ffff) rfl rfl (one_of HT_.out (by as_aux_lemma => kernel_rfl)) (by decide) (fun K hK => ?_)
                rw [if_pos (by as_aux_lemma => kernel_rfl)]
                go_simp
                refine hK.out _ _ ?_
                clear hK K
                refine done_ (done_of HT_.out (by as_aux_lemma => kernel_rfl)) ?_
                go_wp2_with (at_builtin; refine Lib.wpList_append_run _ rfl _ _ _ _ rfl _ _ rfl rfl _ _ HRUN2.out ?_)
                go_meet
                exact ⟨κ', L', m1.addB ⟨s, ⟨#[]⟩, decide (0 < j)⟩, m1.list.length, hLp, by go_num, by show _ < (m1.list ++ [_]).length; rw [List.length_append, List.length_singleton]; omega, by show (m1.list ++ [_]).length ≤ _; rw [List.length_append, List.length_singleton]; omega, HE, HSB3, HD⟩
            case rest =>
              obtain ⟨κ2, L2, m2, b, hL2, rfl, hb, hb2, HS3, HSB3, HD⟩ := hcut
              clear HS2 HSB2 HK' hc HRR HF
              have HSd := Aside0.mk (HS3.out.below (below_drew1 (Below.refl _ _)))
              have hz2 := HS3.out.1.head.1.2.2
              rw [hL2] at hz2
              have hj20 : (j : Int) < 20 := by omega
              have hz2d : wc.drew.cell? ⟨p, 2, none⟩ = some (.slice (some ⟨L2.o, 0, none⟩) 20 20) := hz2
              go_upto_region 20 with fail
              refine start_ (n := 9) (S := fun w' => w'.cell? ⟨p, 2, none⟩ = some (.slice (some ⟨L2.o, 0, none⟩) 20 20)) (ds := [8]) (bl 9 0) (by kernel_rfl) (by kernel_rfl) (by kernel_rfl) (hz2d) (fun hHeld => ?_)
              refine with_tabW (T := r20_T) (B := r20_B) (by as_aux_lemma => kernel_rfl) (by as_aux_lemma => kernel_rfl) (fun HT_ HW_ => ?_)
              refine pu 0 88 (bl 9 0x1) HT_ ?_
              refine pu 1 89 (bl 9 0x3) HT_ ?_
              refine pu 2 90 (bl 9 0x7) HT_ ?_
              refine ta 3 91 (bl 9 0xf) HT_ HW_ hHeld ?_
              refine pu 4 92 (bl 9 0x1f) HT_ ?_
              refine pu 5 93 (bl 9 0x3f) HT_ ?_
              refine one_ (i := 6) (N := some 94) (bl 9 0x7f) rfl rfl (one_of HT_.out (by as_aux_lemma => kernel_rfl)) (by decide) (fun K hK => ?_)
              refine goes_ Try.func30 (by kernel_rfl) rfl #[.int .i64 b] (by as_aux_lemma => kernel_rfl) rfl rfl (by as_aux_lemma => kernel_rfl) ?_
              refine (r_fresh b _).mono ?_
              rintro e w4 ⟨fb, rfl, hf1, hf2, hf3, hf4⟩
              have hq2 := (hf4.cell (World.block_lt_of_cell? _ _ hz2d)).trans hz2d
              refine ⟨_, rfl, ?_⟩
              refine hK.out _ _ (hq2) (fun hHeld => ?_)
              clear hK K
              refine pu 7 95 (bl 9 0xff) HT_ ?_
              refine last_ (i := 8) (N := none) (bl 9 0x1ff) rfl rfl (one_of HT_.out (by as_aux_lemma => kernel_rfl)) (by decide) (fun K hK => ?_)
              rw [if_pos (by as_aux_lemma => kernel_rfl)]
              have hA4 := HSd.out.below hf4
              have ho4 := (hA4.1.fc j (by omega))
              have hz4 := fun k => hA4.1.fz k
              go_simp
              refine hK.out _ _ ?_
              clear hK K ho4 hz4 hA4
              refine done_ (done_of HT_.out (by as_aux_lemma => kernel_rfl)) ?_
              have hst5 := HSd.out.1.set5 hf4 j (by omega) (freshR b) fb (fun _ => hb) (Nat.zero_le _) (fun _ => ⟨hf1, hf2, by rw [flK_fresh]; exact hf3⟩) (.slice (some ⟨fb, 0, none⟩) 6 6) rfl
              rw [HD.out] at hst5
              obtain ⟨κ5, L5, hL5, hst5⟩ : ∃ κ5 L5, L5.p = L2.p ∧ RSt κ2 wc.drew κ5 L5 (((((w4.setCell ⟨L2.o, j * 5, none⟩ (.bool true)).setCell ⟨L2.o, j * 5 + 1, none⟩ (.int .i64 b)).setCell ⟨L2.o, j * 5 + 2, none⟩ (.int .i64 0)).setCell ⟨L2.o, j * 5 + 3, none⟩ (.int .i64 0)).setCell ⟨L2.o, j * 5 + 4, none⟩ (.slice (some ⟨fb, 0, none⟩) 6 6)) (m1.std j s) := ⟨_, { L2 with fb := fun k => if k = j then fb else L2.fb k }, rfl, hst5⟩
              have HSB4 := Aside0.mk (nx_keep hst5.2 (nx_keep (Below.nx κ2 (below_drew1 (Below.refl _ _))) HSB3.out))
              have HE2 := Aside0.mk (HSd.out.then hst5)
              have hlen3 : (m1.std j s).list.length ≤ 64 + (j + 1) := by rw [← HD.out]; exact hb2
              clear hst5 HSB3 HSd HS3 HD
              go_wp2
              go_roundw
              case rel => exact ⟨j + 1, κ5, L5, m1.std j s, by omega, by go_num, hL5.trans hL2, hlen3, HE2, HSB4, HKK⟩
              case measure => simp [intOf]; omega
          · obtain rfl : j = 3 := by omega
            obtain rfl : m1 = RW.stdK 3 0 (rstart bs) := HK.out
            have hop : ((RW.stdK 3 0 (rstart bs)).fs 1).op = true := stdK_op _
            have hst0 := HS2.out.below (below_drew1 (Below.refl _ _))
            have hbk := hst0.1.ok.bk 1 (by decide) hop
            have htx := hst0.1.ok.text (k := 1) (by decide) hop
            have hst1 := hst0.1.put32 1 (by decide) ((RW.stdK 3 0 (rstart bs)).text 1).size 2 htx
            have HE := Aside0.mk (hst0.then hst1)
            obtain ⟨y0, y1, y2⟩ := HS2.out.1.head.1
            obtain ⟨ga, cp, hv, hc1, hc2, hcc⟩ := HS2.out.1.bc
            obtain ⟨g, rfl, hgt, _, z4, _, _⟩ := hcc _ hbk
            have hgo : g ≠ L1.o := tne hgt HS2.out.1.tk Tag.noConfusion
            have hpo : p ≠ L1.o := by rw [← hL1]; exact tne HS2.out.1.tp HS2.out.1.tk Tag.noConfusion
            have hcm3 : cp ≤ 9223372036854775807 := hc2
            rw [RW.text_at hbk] at HE
            rw [hv] at y0
            rw [hL1] at y0 y2
            have z1 : wr.cell? ⟨L1.o, 6, none⟩ = some (.int .i64 ((RW.stdK 3 0 (rstart bs)).fs 1).bk) := (HS2.out.1.fc 1 (by decide)).2.1
            have z2 : wr.cell? ⟨L1.o, 7, none⟩ = some (.int .i64 ((RW.stdK 3 0 (rstart bs)).fs 1).pos) := (HS2.out.1.fc 1 (by decide)).2.2.1
            have z3 : wr.cell? ⟨L1.o, 8, none⟩ = some (.int .i64 ((RW.stdK 3 0 (rstart bs)).fs 1).mood) := (HS2.out.1.fc 1 (by decide)).2.2.2.1
            have f2 : wr.frozen? ⟨L1.o, 7, none⟩ = false := HS2.out.1.fz 7
            have f3 : wr.frozen? ⟨L1.o, 8, none⟩ = false := HS2.out.1.fz 8
            have HMM : Aside0 ((RW.stdK 3 0 (rstart bs)).setF 1 { (RW.stdK 3 0 (rstart bs)).fs 1 with pos := ((RW.stdK 3 0 (rstart bs)).list[((RW.stdK 3 0 (rstart bs)).fs 1).bk]'hbk).text.size, mood := 2 } = (RW.stdK 3 0 (rstart bs)).outF) := ⟨by unfold RW.outF; rw [RW.text_at hbk]⟩
            clear hcc hc2 hst0 hst1 hop htx
            generalize hM3 : RW.stdK 3 0 (rstart bs) = M3 at *
            clear hM3
            generalize hbb : M3.list[(M3.fs 1).bk] = bb at *
            clear hbb
            generalize (M3.fs 1).bk = ib at *
            go_wp2
            go_region
            go_wp2
            go_ret2
            exact .inl ⟨rfl, κ1, L1, by unfold pt; rw [hL1]; rfl, by rw [← HMM.out]; exact HE.out⟩
end Go.Proofs.Ytonmdifmlpfcpaa.PB
