-- written by a program of this session out of the kit's print (its words and its form)
import Derived.Test.YtckbmniiecbalaaGreatDoorPTgRa
import Derived.Test.YtckbmniiecbalaaGreatDoorPTgSb
import Derived.Test.YtckbmniiecbalaaGreatDoorPTgSc
import Derived.Test.YtckbmniiecbalaaGreatDoorPTsq
import Derived.Test.YtckbmniiecbalaaGreatDoorPTx0
namespace Go.Proofs.YtckbmniiecbalaaGreatDoor.PT
open Go.RowKit Go.Proofs.YtckbmniiecbalaaGreatDoorW.PrintWords Go.Proofs.YtckbmniiecbalaaGreatDoorW.PrintLast Go.Proofs.YtckbmniiecbalaaGreatDoorW.PrintMore
attribute [local go_sem] max2_int min2_int max_two min_two max_three min_three max_four min_four   -- for this text's walks alone
set_option linter.unusedVariables false
set_option linter.unusedSimpArgs false

/-! ### environref03_next: function 91 -/
def environref03_next.l0 : Nat → List Int → Int → Option (List Int)
 | 0, _, _ => none
 | k + 1, x3, x4 => if x4 < (x3.length : Int) then (if 0 ≤ x4 then (if (rd x3 x4) < 9 then (some (x3.set (x4 : Int).toNat (wrap64 ((rd x3 x4) + 1)))) else (environref03_next.l0 k (x3.set (x4 : Int).toNat 0) (wrap64 (x4 + 1)))) else (none)) else (if x3.length < 17592186044416 then (some (x3 ++ [1])) else (none))
def environref03_next.f (k : Nat) (l0 : List Int) : Option (List Int) := (some (([] : List Int) : List Int)).bind fun y363 => (if y363.length + l0.length < 17592186044416 then (environref03_next.l0 k (y363 ++ l0) 0) else (none))
theorem environref03_next.mono_l : ∀ k, (∀ y0 y1, LeO (environref03_next.l0 k y0 y1) (environref03_next.l0 (k + 1) y0 y1))
 | 0 => fun _ _ r h => by simp [environref03_next.l0] at h
 | k + 1 => by
  have ih0 := environref03_next.mono_l k
  ·intro y0 y1
   unfold environref03_next.l0
   repeat' first
   | (with_reducible exact ih0 _ _)
   | (with_reducible exact LeO.refl _)
   | (with_reducible exact LeO.none _)
   | (with_reducible refine LeO.ite ?_ ?_)
   | (with_reducible refine LeO.bind ?_ (fun _ => ?_))
   | exact ih0 _ _
   | exact LeO.none _
   | refine LeO.ite ?_ ?_
   | refine LeO.bind ?_ (fun _ => ?_)
theorem environref03_next.mono : ∀ a0 k, LeO (environref03_next.f k a0) (environref03_next.f (k + 1) a0) := by
 intro a0 k
 have ih0 := environref03_next.mono_l k
 unfold environref03_next.f
 repeat' first
   | (with_reducible exact ih0 _ _)
   | (with_reducible exact LeO.refl _)
   | (with_reducible exact LeO.none _)
   | (with_reducible refine LeO.ite ?_ ?_)
   | (with_reducible refine LeO.bind ?_ (fun _ => ?_))
   | exact ih0 _ _
   | exact LeO.none _
   | refine LeO.ite ?_ ?_
   | refine LeO.bind ?_ (fun _ => ?_)
set_option maxHeartbeats 8000000 in
set_option maxRecDepth 100000 in
theorem environref03_next.calls (k : Nat) (A0 : Option Addr) (c0 : Nat) (l0 : List Int) (r : List Int) (w : World) (hr0 : Kd.C (Kd.int .i64) w A0 l0.length l0) (hc0 : l0.length ≤ c0) (h : environref03_next.f k l0 = some r) :
  Calls Tryz.prog 91 #[.slice A0 l0.length c0] w fun e w' => ∃ v0_ : Value, e = .returned (v0_) ∧ Kd.R (Kd.int .i64) 3 w' w.heap.size (fun _ => True) v0_ r ∧ Below w.heap.size w w' := by
 have HR0 := Aside0.mk hr0
 have HC0 := Aside0.mk hc0
 clear hr0 hc0
 have HB := Aside0.mk (Below.refl w.heap.size w)
 have H : ((some (([] : List Int) : List Int)).bind fun y363 => (if y363.length + l0.length < 17592186044416 then (environref03_next.l0 k (y363 ++ l0) 0) else (none))) = some r := h
 clear h
 obtain ⟨y363, hy363⟩ : ∃ y_ : List Int, y_ = (([] : List Int)) := ⟨_, rfl⟩
 replace H : (if y363.length + l0.length < 17592186044416 then (environref03_next.l0 k (y363 ++ l0) 0) else (none)) = some r := by first | (rw [hy363]; with_reducible exact H) | (have H2_ := (Option.bind_some _ _).symm.trans H; rw [hy363]; with_reducible exact H2_) | (have H2_ := (Option.bind_some _ _).symm.trans H; with_reducible exact H2_) | with_reducible exact H | (rw [hy363]; exact H) | exact H
 have Ny363 := Aside0.mk hy363
 clear hy363
 by_cases c2 : y363.length + l0.length < 17592186044416
 ·rw [if_pos c2] at H
  have LMc2 := Aside0.mk c2
  clear c2
  obtain ⟨y366, hy366⟩ : ∃ y_ : List Int, y_ = (y363 ++ l0) := ⟨_, rfl⟩
  replace H : (environref03_next.l0 k y366 0) = some r := by first | (rw [hy366]; with_reducible exact H) | (have H2_ := (Option.bind_some _ _).symm.trans H; rw [hy366]; with_reducible exact H2_) | (have H2_ := (Option.bind_some _ _).symm.trans H; with_reducible exact H2_) | with_reducible exact H | (rw [hy366]; exact H) | exact H
  have Ny366 := Aside0.mk hy366
  clear hy366
  have H' := Aside0.mk H
  clear H
  go_enter Tryz.func91, Tryz.ntmps91
  go_wp2_with (first | ((with_reducible refine gate_dst (N := 5) rfl ?_); refine Kd.R_lit (Kd.int .i64) _ 3 ?hg (N := 5) ?hd (xs := ([] : List Int)) (inner := []) (ok := fun _ => True) (okp := fun _ => True) ?hr ?hp (fun _ hk => hk) trivial (Below.refl _ _) (Nat.le_refl _) (by simp) ?_; (case hd => rfl); (case hg => rfl); (case hr => first | (go_simp; done) | (go_simp; rfl)); (case hp => exact (Reps.none _ _)); intro v364 w3 ho4 hb hg_ hnew_; clear hg_ hnew_; (first | rw [← Ny363.out] at ho4 | (simp only [Int.reduceToNat] at ho4; rw [← Ny363.out] at ho4)); have HO365 := Aside0.mk (Kd.R_lower ho4 (below_size (bw HB))); replace HB := Aside0.mk (below_step (bw HB) hb); clear hb ho4) | ((with_reducible refine gate_builtin (b := .append) (xs := #[.tmp 5, .tmp 6]) rfl ?_); at_builtin; refine Kd.R_append_rows (Kd.int .i64) (w0 := w) w.heap.size rfl (.tmp 5) (.tmp 6) 68 3 (.int .i64 0) 8 rfl Tryz.underlying68 info3 rfl (by decide) (by omega) v364 y363 l0 _ _ _ (fun _ => True) (fun _ => False) rfl rfl ?aO ?aR (fun _ _ h => h) (fun _ h => h.elim) ?aF ?aB ?aS ?aL ?_; (case aR => repeat (first | exact (Kd.C_below HR0.out HB.out) | (with_reducible refine Kd.C_alloc ?_ _) | (with_reducible refine Kd.C_drewN ?_ _) | (with_reducible refine Kd.C_drew ?_))); (case aB => exact (bw HB)); (case aF => exact (fun _ _ => trivial)); (case aO => exact (by (with_reducible repeat (first | apply Kd.R_alloc | apply Kd.R_drewN | apply Kd.R_drew)); exact HO365.out)); (case aS => exact (below_size (bw HB))); (case aL => have := LMc2.out; omega); intro v367 w5 ho hb hg hat; rw [← Ny366.out] at ho; replace HB := Aside0.mk (hb); have HO368 := Aside0.mk (ho); clear HO365; clear ho hb hg hat))
  go_loopg [4] k (fun kq v4 w' => ∃ (x3_1 : List Int) (x4_1 : Int), v4 = .int .i64 x4_1 ∧ Aside0 (environref03_next.l0 kq x3_1 x4_1 = some r) ∧ Aside0 (kq ≤ k) ∧ Aside0 (Kd.R (Kd.int .i64) 3 w' w.heap.size (fun _ => True) v367 x3_1) ∧ Aside0 (Below w.heap.size w w'))
  case atStart => exact ⟨(y366), (0), (by first | rfl | (simp; done) | (simp [*]; done)), H', ⟨Nat.le_refl _⟩, ⟨by (with_reducible repeat (first | apply Kd.R_alloc | apply Kd.R_drewN | apply Kd.R_drew)); exact HO368.out⟩, ⟨bw HB⟩⟩
  case round =>
   clear H'
   try clear c2
   try clear p2
   obtain ⟨x3_1, x4_1, rfl, HA, HK1, HO_3, HB⟩ := hrel
   cases gk with
   | zero => exact absurd HA.out (by simp [environref03_next.l0])
   | succ k1 =>
    have H := HA.out
    clear HA
    simp only [environref03_next.l0] at H
    by_cases c6 : x4_1 < (x3_1.length : Int)
    ·rw [if_pos c6] at H
     have c6b0 : decide (x4_1 < (x3_1.length : Int)) = true := decide_eq_true c6
     clear c6
     by_cases c7 : 0 ≤ x4_1
     ·rw [if_pos c7] at H
      have c7b0 : decide (0 ≤ x4_1) = true := decide_eq_true c7
      clear c7
      by_cases c8 : (rd x3_1 x4_1) < 9
      ·rw [if_pos c8] at H
       have c8b0 : decide ((rd x3_1 x4_1) < 9) = true := decide_eq_true c8
       clear c8
       obtain ⟨y371, hy371⟩ : ∃ y_ : List Int, y_ = (x3_1.set (x4_1 : Int).toNat (wrap64 ((rd x3_1 x4_1) + 1))) := ⟨_, rfl⟩
       replace H : (some y371) = some r := by first | (rw [hy371]; with_reducible exact H) | (have H2_ := (Option.bind_some _ _).symm.trans H; rw [hy371]; with_reducible exact H2_) | (have H2_ := (Option.bind_some _ _).symm.trans H; with_reducible exact H2_) | with_reducible exact H | (rw [hy371]; exact H) | exact H
       have Ny371 := Aside0.mk hy371
       clear hy371
       obtain rfl := Option.some.inj H
       obtain ⟨Ao10, co10, eo10⟩ := Kd.R_slice HO_3.out
       subst eo10
       have p369 : 0 ≤ (x4_1 : Int) := of_decide_eq_true (by first | (with_reducible assumption) | assumption)
       have q369 : x4_1 < (x3_1.length : Int) := of_decide_eq_true (by first | (with_reducible assumption) | assumption)
       obtain ⟨ad369, e369, hx369_0⟩ := Kd.at_int (Kd.R_reads' HO_3.out).2.2 x4_1 p369 q369
       cases e369
       replace p369 := eq_true p369
       replace q369 := eq_true q369
       have p370 : 0 ≤ (x4_1 : Int) := of_decide_eq_true (by first | (with_reducible assumption) | assumption)
       have q370 : x4_1 < (x3_1.length : Int) := of_decide_eq_true (by first | (with_reducible assumption) | assumption)
       obtain ⟨ad370, e370, hx370_0⟩ := Kd.at_int (Kd.R_reads' HO_3.out).2.2 x4_1 p370 q370
       obtain rfl : ad369 = ad370 := (by injection e370)
       replace p370 := eq_true p370
       replace q370 := eq_true q370
       have p9 : 0 ≤ (x4_1 : Int) := of_decide_eq_true (by first | (with_reducible assumption) | assumption)
       have q9 : (x4_1 : Int) < ((x3_1.length : Int) : Int) := of_decide_eq_true (by first | (with_reducible assumption) | assumption)
       obtain ⟨go9, co9, eo9, gb9, gl9, cl9, HG9⟩ := Kd.R_form HO_3.out (by omega)
       (first | cases eo9 | (injection eo9 with ea_ en_ ec_; (first | subst ea_ | (injection ea_ with ea_; subst ea_)); subst ec_; clear en_))
       have GB9 := Aside0.mk gb9
       have GG9 := Aside0.mk HG9
       clear gb9 gl9 HG9
       (first | simp only [add_plain] at hx369_0 | skip)
       (first | simp only [add_plain] at hx370_0 | skip)
       obtain ⟨hx9_0, hf9_0⟩ := Kd.R_celln 0 HO_3.out (x4_1 : Int) p9 q9
       replace p9 := eq_true p9
       replace q9 := eq_true q9
       have HP11 := Kd.R_putg HO_3.out (x4_1 : Int) (wrap64 ((rd x3_1 x4_1) + 1))
       go_wp2_with (first | ((with_reducible refine gate_store (t := 3) (p := 24) rfl ?_); refine store_event (t := 3) (p := 24) (v := ?vo_w12) (w1 := (wr.setCell ⟨go9, (x4_1 : Int).toNat, none⟩ (.int .i64 (wrap64 ((rd x3_1 x4_1) + 1))))) ?hg ?ho ?hn ?hr ?_; (case ho => rfl); (case hg => rfl); (case hn => rfl); (case hr => first | (go_simp; done) | (go_simp; rfl)); intro w12 hw; have hg : wr.grownBy w12 (some go9) := (by rw [hw]; exact HP11.2); have hp_ : Kd.R (Kd.int .i64) 3 w12 w.heap.size (fun _ => True) (.slice (some ⟨go9, 0, none⟩) x3_1.length co10) y371 := (by rw [hw, Ny371.out]; exact HP11.1); clear HP11; replace HO_3 := Aside0.mk (hp_); replace HB := Aside0.mk ((by rw [hw]; exact below_set (HB.out) GB9.out : Below w.heap.size w w12)); clear hg hw hp_))
       go_ret
       exact ⟨_, by first | rfl | (simp [errW_none, errW_some] <;> rfl) | (simp [*, errW_none, errW_some] <;> rfl), by (with_reducible repeat (first | apply Kd.R_alloc | apply Kd.R_drewN | apply Kd.R_drew)); exact HO_3.out, bw HB⟩
      ·rw [if_neg c8] at H
       have c8b0 : decide ((rd x3_1 x4_1) < 9) = false := decide_eq_false c8
       clear c8
       obtain ⟨y372, hy372⟩ : ∃ y_ : List Int, y_ = (x3_1.set (x4_1 : Int).toNat 0) := ⟨_, rfl⟩
       replace H : (environref03_next.l0 k1 y372 (wrap64 (x4_1 + 1))) = some r := by first | (rw [hy372]; with_reducible exact H) | (have H2_ := (Option.bind_some _ _).symm.trans H; rw [hy372]; with_reducible exact H2_) | (have H2_ := (Option.bind_some _ _).symm.trans H; with_reducible exact H2_) | with_reducible exact H | (rw [hy372]; exact H) | exact H
       have Ny372 := Aside0.mk hy372
       clear hy372
       have H' := Aside0.mk H
       clear H
       obtain ⟨Ao14, co14, eo14⟩ := Kd.R_slice HO_3.out
       subst eo14
       have p369 : 0 ≤ (x4_1 : Int) := of_decide_eq_true (by first | (with_reducible assumption) | assumption)
       have q369 : x4_1 < (x3_1.length : Int) := of_decide_eq_true (by first | (with_reducible assumption) | assumption)
       obtain ⟨ad369, e369, hx369_0⟩ := Kd.at_int (Kd.R_reads' HO_3.out).2.2 x4_1 p369 q369
       cases e369
       replace p369 := eq_true p369
       replace q369 := eq_true q369
       have p13 : 0 ≤ (x4_1 : Int) := of_decide_eq_true (by first | (with_reducible assumption) | assumption)
       have q13 : (x4_1 : Int) < ((x3_1.length : Int) : Int) := of_decide_eq_true (by first | (with_reducible assumption) | assumption)
       obtain ⟨go13, co13, eo13, gb13, gl13, cl13, HG13⟩ := Kd.R_form HO_3.out (by omega)
       (first | cases eo13 | (injection eo13 with ea_ en_ ec_; (first | subst ea_ | (injection ea_ with ea_; subst ea_)); subst ec_; clear en_))
       have GB13 := Aside0.mk gb13
       have GG13 := Aside0.mk HG13
       clear gb13 gl13 HG13
       (first | simp only [add_plain] at hx369_0 | skip)
       obtain ⟨hx13_0, hf13_0⟩ := Kd.R_celln 0 HO_3.out (x4_1 : Int) p13 q13
       replace p13 := eq_true p13
       replace q13 := eq_true q13
       have HP15 := Kd.R_putg HO_3.out (x4_1 : Int) 0
       go_wp2_with (first | ((with_reducible refine gate_store (t := 3) (p := 28) rfl ?_); refine store_event (t := 3) (p := 28) (v := ?vo_w16) (w1 := (wr.setCell ⟨go13, (x4_1 : Int).toNat, none⟩ (.int .i64 0))) ?hg ?ho ?hn ?hr ?_; (case ho => rfl); (case hg => rfl); (case hn => rfl); (case hr => first | (go_simp; done) | (go_simp; rfl)); intro w16 hw; have hg : wr.grownBy w16 (some go13) := (by rw [hw]; exact HP15.2); have hp_ : Kd.R (Kd.int .i64) 3 w16 w.heap.size (fun _ => True) (.slice (some ⟨go13, 0, none⟩) x3_1.length co14) y372 := (by rw [hw, Ny372.out]; exact HP15.1); clear HP15; replace HO_3 := Aside0.mk (hp_); replace HB := Aside0.mk ((by rw [hw]; exact below_set (HB.out) GB13.out : Below w.heap.size w w16)); clear hg hw hp_))
       go_roundg k1
       case measure => have := HK1.out; omega
       case rel => exact ⟨(y372), (wrap64 (x4_1 + 1)), (by first | rfl | (simp; done) | (simp [*]; done)), H', ⟨by have := HK1.out; omega⟩, ⟨by (with_reducible repeat (first | apply Kd.R_alloc | apply Kd.R_drewN | apply Kd.R_drew)); exact HO_3.out⟩, ⟨bw HB⟩⟩
     ·rw [if_neg c7] at H
      exact absurd H (by simp)
    ·rw [if_neg c6] at H
     have c6b0 : decide (x4_1 < (x3_1.length : Int)) = false := decide_eq_false c6
     clear c6
     by_cases c17 : x3_1.length < 17592186044416
     ·rw [if_pos c17] at H
      have LMc17 := Aside0.mk c17
      clear c17
      obtain ⟨y373, hy373⟩ : ∃ y_ : List Int, y_ = (x3_1 ++ [1]) := ⟨_, rfl⟩
      replace H : (some y373) = some r := by first | (rw [hy373]; with_reducible exact H) | (have H2_ := (Option.bind_some _ _).symm.trans H; rw [hy373]; with_reducible exact H2_) | (have H2_ := (Option.bind_some _ _).symm.trans H; with_reducible exact H2_) | with_reducible exact H | (rw [hy373]; exact H) | exact H
      have Ny373 := Aside0.mk hy373
      clear hy373
      obtain rfl := Option.some.inj H
      obtain ⟨Ao18, co18, eo18⟩ := Kd.R_slice HO_3.out
      subst eo18
      go_wp2_with (first | ((with_reducible refine gate_builtin (b := .append) (xs := #[.tmp 29, .tmp 30]) rfl ?_); at_builtin; refine Kd.R_append (Kd.int .i64) (w0 := w) w.heap.size rfl (.tmp 29) (.tmp 30) 68 3 (.int .i64 0) 8 rfl Tryz.underlying68 info3 rfl (by decide) (by omega) (.slice Ao18 x3_1.length co18) x3_1 1 [.int .i64 1] (fun _ => True) (fun _ => False) rfl rfl ?aP (fun _ hk => hk.elim) ?aF ?aO ?aB ?aS ?aL ?_; (case aP => exact rfl); (case aB => exact (bw HB)); (case aF => exact (fun _ _ => trivial)); (case aO => exact (by (with_reducible repeat (first | apply Kd.R_alloc | apply Kd.R_drewN | apply Kd.R_drew)); exact HO_3.out)); (case aS => exact (below_size (bw HB))); (case aL => have := LMc17.out; omega); intro v374 w19 ho hb hg hat; rw [← Ny373.out] at ho; replace HB := Aside0.mk (hb); have HO375 := Aside0.mk (ho); clear HO_3; clear ho hb hg hat))
      go_ret
      exact ⟨_, by first | rfl | (simp [errW_none, errW_some] <;> rfl) | (simp [*, errW_none, errW_some] <;> rfl), by (with_reducible repeat (first | apply Kd.R_alloc | apply Kd.R_drewN | apply Kd.R_drew)); exact HO375.out, bw HB⟩
     ·rw [if_neg c17] at H
      exact absurd H (by simp)
 ·rw [if_neg c2] at H
  exact absurd H (by simp)

/-! ### environref03_rounded: function 54 -/
def environref03_rounded.f (k : Nat) (a0_0 : Int) (a0_1 : Int) (a1 : Int) : Option (List Int) := (environref02_Of.f k a0_0).bind fun t377 => (if (wrap64 (a0_1 + a1)) ≥ 0 then (if 0 ≤ (wrap64 (a0_1 + a1)) then (if (wrap64 (a0_1 + a1) : Int).toNat ≤ 35184372088832 then ((some (List.replicate (wrap64 (a0_1 + a1) : Int).toNat 0 : List Int)).bind fun y380 => (if y380.length + t377.length < 17592186044416 then (some (y380 ++ t377)) else (none))) else (none)) else (none)) else (if (wrap64 (-(wrap64 (a0_1 + a1)))) > (t377.length : Int) then (some (([] : List Int))) else (if 0 ≤ (wrap64 ((wrap64 (-(wrap64 (a0_1 + a1)))) - 1)) then (if (wrap64 ((wrap64 (-(wrap64 (a0_1 + a1)))) - 1)) < (t377.length : Int) then (if 0 ≤ (wrap64 (-(wrap64 (a0_1 + a1)))) then (if (wrap64 (-(wrap64 (a0_1 + a1)))) ≤ (t377.length : Int) then ((some (t377.drop ((wrap64 (-(wrap64 (a0_1 + a1)))) : Int).toNat : List Int)).bind fun y390 => (if (rd t377 (wrap64 ((wrap64 (-(wrap64 (a0_1 + a1)))) - 1))) ≥ 5 then ((environref03_next.f k y390).bind fun t393 => (some t393)) else (some y390))) else (none)) else (none)) else (none)) else (none))))
theorem environref03_rounded.mono : ∀ a0 a1 a2 k, LeO (environref03_rounded.f k a0 a1 a2) (environref03_rounded.f (k + 1) a0 a1 a2) := by
 intro a0 a1 a2 k
 unfold environref03_rounded.f
 repeat' first
   | (with_reducible exact environref02_Of.mono _ _)
   | (with_reducible exact environref03_next.mono _ _)
   | (with_reducible exact LeO.refl _)
   | (with_reducible exact LeO.none _)
   | (with_reducible refine LeO.ite ?_ ?_)
   | (with_reducible refine LeO.bind ?_ (fun _ => ?_))
   | exact environref02_Of.mono _ _
   | exact environref03_next.mono _ _
   | exact LeO.none _
   | refine LeO.ite ?_ ?_
   | refine LeO.bind ?_ (fun _ => ?_)
def environref03_rounded.T1 : Bool × List (List Nat × List Nat) := (true, [([], []), ([0], [0]), ([1], [1]), ([], []), ([3], [3]), ([], []), ([4, 5], [4, 5]), ([2, 2, 0, 1, 2], [2]), ([6, 7, 0, 1, 2, 3, 4, 5, 6, 7], [6])])
def environref03_rounded.B1 : List Nat := [0, 1, 3, 0, 8, 0, 56, 7, 255]
theorem environref03_rounded.tab1 : rtab .any (opsOf Tryz.f54 1) = environref03_rounded.T1 := by kernel_rfl
theorem environref03_rounded.bits1 : waitsOk environref03_rounded.T1.2 environref03_rounded.B1 = true := by kernel_rfl
set_option maxHeartbeats 8000000 in
set_option maxRecDepth 100000 in
theorem environref03_rounded.calls (k : Nat) (a0_0 : Int) (a0_1 : Int) (a1 : Int) (r : List Int) (w : World) (h : environref03_rounded.f k a0_0 a0_1 a1 = some r) :
  Calls Tryz.prog 54 #[.agg #[.int .i64 a0_0, .int .i64 a0_1], .int .i64 a1] w fun e w' => ∃ v0_ : Value, e = .returned (v0_) ∧ Kd.Q (Kd.int .i64) 3 w' w.heap.size (fun _ => True) v0_ r ∧ Below w.heap.size w w' := by
 have hu23 := Tryz.underlying23
 have HB := Aside0.mk (Below.refl w.heap.size w)
 have H : ((environref02_Of.f k a0_0).bind fun t377 => (if (wrap64 (a0_1 + a1)) ≥ 0 then (if 0 ≤ (wrap64 (a0_1 + a1)) then (if (wrap64 (a0_1 + a1) : Int).toNat ≤ 35184372088832 then ((some (List.replicate (wrap64 (a0_1 + a1) : Int).toNat 0 : List Int)).bind fun y380 => (if y380.length + t377.length < 17592186044416 then (some (y380 ++ t377)) else (none))) else (none)) else (none)) else (if (wrap64 (-(wrap64 (a0_1 + a1)))) > (t377.length : Int) then (some (([] : List Int))) else (if 0 ≤ (wrap64 ((wrap64 (-(wrap64 (a0_1 + a1)))) - 1)) then (if (wrap64 ((wrap64 (-(wrap64 (a0_1 + a1)))) - 1)) < (t377.length : Int) then (if 0 ≤ (wrap64 (-(wrap64 (a0_1 + a1)))) then (if (wrap64 (-(wrap64 (a0_1 + a1)))) ≤ (t377.length : Int) then ((some (t377.drop ((wrap64 (-(wrap64 (a0_1 + a1)))) : Int).toNat : List Int)).bind fun y390 => (if (rd t377 (wrap64 ((wrap64 (-(wrap64 (a0_1 + a1)))) - 1))) ≥ 5 then ((environref03_next.f k y390).bind fun t393 => (some t393)) else (some y390))) else (none)) else (none)) else (none)) else (none))))) = some r := h
 clear h
 replace H := Option.bind_eq_some_iff.mp H
 obtain ⟨t377, A30, H⟩ := H
 replace H : (if (wrap64 (a0_1 + a1)) ≥ 0 then (if 0 ≤ (wrap64 (a0_1 + a1)) then (if (wrap64 (a0_1 + a1) : Int).toNat ≤ 35184372088832 then ((some (List.replicate (wrap64 (a0_1 + a1) : Int).toNat 0 : List Int)).bind fun y380 => (if y380.length + t377.length < 17592186044416 then (some (y380 ++ t377)) else (none))) else (none)) else (none)) else (if (wrap64 (-(wrap64 (a0_1 + a1)))) > (t377.length : Int) then (some (([] : List Int))) else (if 0 ≤ (wrap64 ((wrap64 (-(wrap64 (a0_1 + a1)))) - 1)) then (if (wrap64 ((wrap64 (-(wrap64 (a0_1 + a1)))) - 1)) < (t377.length : Int) then (if 0 ≤ (wrap64 (-(wrap64 (a0_1 + a1)))) then (if (wrap64 (-(wrap64 (a0_1 + a1)))) ≤ (t377.length : Int) then ((some (t377.drop ((wrap64 (-(wrap64 (a0_1 + a1)))) : Int).toNat : List Int)).bind fun y390 => (if (rd t377 (wrap64 ((wrap64 (-(wrap64 (a0_1 + a1)))) - 1))) ≥ 5 then ((environref03_next.f k y390).bind fun t393 => (some t393)) else (some y390))) else (none)) else (none)) else (none)) else (none)))) = some r := H
 have A3 := Aside0.mk A30
 clear A30
 by_cases c4 : (wrap64 (a0_1 + a1)) ≥ 0
 ·rw [if_pos c4] at H
  have c4b0 : decide (0 ≤ (wrap64 (a0_1 + a1))) = true := decide_eq_true c4
  clear c4
  obtain ⟨ji5, hji5⟩ : ∃ j_ : Int, (wrap64 (a0_1 + a1)) = j_ := ⟨_, rfl⟩
  replace H : (if 0 ≤ (ji5) then (if (ji5 : Int).toNat ≤ 35184372088832 then ((some (List.replicate (ji5 : Int).toNat 0 : List Int)).bind fun y380 => (if y380.length + t377.length < 17592186044416 then (some (y380 ++ t377)) else (none))) else (none)) else (none)) = some r := by first | (rw [hji5] at H; exact H) | (simp only [hji5] at H ⊢; exact H)
  (try rw [hji5] at c4b0)
  (try rw [hji5] at A3)
  have hji5w : (IntKind.i64.wrap (a0_1 + a1)) = ji5 := (i64_w _).trans hji5
  by_cases c6 : 0 ≤ (ji5)
  ·rw [if_pos c6] at H
   have c6b0 := eq_true c6
   have c6b1 : decide (0 ≤ (ji5)) = true := decide_eq_true c6
   clear c6
   by_cases c7 : (ji5 : Int).toNat ≤ 35184372088832
   ·rw [if_pos c7] at H
    have c7b0 := eq_true c7
    have c7b1 : decide ((ji5 : Int).toNat ≤ 35184372088832) = true := decide_eq_true c7
    clear c7
    obtain ⟨y380, hy380⟩ : ∃ y_ : List Int, y_ = (List.replicate (ji5 : Int).toNat 0) := ⟨_, rfl⟩
    replace H : (if y380.length + t377.length < 17592186044416 then (some (y380 ++ t377)) else (none)) = some r := by first | (rw [hy380]; with_reducible exact H) | (have H2_ := (Option.bind_some _ _).symm.trans H; rw [hy380]; with_reducible exact H2_) | (have H2_ := (Option.bind_some _ _).symm.trans H; with_reducible exact H2_) | with_reducible exact H | (rw [hy380]; exact H) | exact H
    have Ny380 := Aside0.mk hy380
    clear hy380
    by_cases c8 : y380.length + t377.length < 17592186044416
    ·rw [if_pos c8] at H
     have LMc8 := Aside0.mk c8
     clear c8
     obtain ⟨y383, hy383⟩ : ∃ y_ : List Int, y_ = (y380 ++ t377) := ⟨_, rfl⟩
     replace H : (some y383) = some r := by first | (rw [hy383]; with_reducible exact H) | (have H2_ := (Option.bind_some _ _).symm.trans H; rw [hy383]; with_reducible exact H2_) | (have H2_ := (Option.bind_some _ _).symm.trans H; with_reducible exact H2_) | with_reducible exact H | (rw [hy383]; exact H) | exact H
     have Ny383 := Aside0.mk hy383
     clear hy383
     obtain rfl := Option.some.inj H
     go_enter Tryz.func54, Tryz.ntmps54
     try go_wp2_with (first | ((with_reducible refine gate_dst (N := 2) rfl ?_); refine box_event ?hg (N := 2) ?hd (cs := #[.int .i64 a0_0, .int .i64 a0_1]) (t := 23) ?hr ?_; (case hd => rfl); (case hg => rfl); (case hr => first | (go_simp; done) | (go_simp; rfl)); intro gb376 hg w9 hbox hb; have BK376 := Aside0.mk (hbox); have GW376 := Aside0.mk (bs HB hg : w.heap.size ≤ gb376); replace HB := Aside0.mk (below_step (bw HB) hb); clear hb hbox hg))
     replace BK376 := Aside0.mk (blk_drew BK376.out)
     replace HB := Aside0.mk (below_drew1 HB.out)
     refine start_ (n := 9) (S := fun w' => w'.cell? ⟨gb376, 0, none⟩ = some (.int .i64 a0_0) ∧ w'.cell? ⟨gb376, 1, none⟩ = some (.int .i64 a0_1)) (ds := []) #[false, false, false, false, false, false, false, false, false] (by kernel_rfl) rfl rfl ⟨(blk_cell BK376.out 0).trans rfl, (blk_cell BK376.out 1).trans rfl⟩ (fun hHeld => ?_); refine with_tabW environref03_rounded.tab1 environref03_rounded.bits1 (fun HT_ HW_ => ?_)
     generalize w9.drew = w10 at BK376 HB hHeld ⊢
     refine pu 0 8 (bl 9 1) HT_ ?_
     refine pu 3 11 (bl 9 9) HT_ ?_
     refine pu 5 13 (bl 9 41) HT_ ?_
     refine ta 1 9 (bl 9 43) HT_ HW_ hHeld ?_
     refine ta 4 12 (bl 9 59) HT_ HW_ hHeld ?_
     refine pu 6 14 (bl 9 123) HT_ ?_
     refine one_ (i := 2) (N := some 10) #[true, true, true, true, true, true, true, false, false] rfl rfl (one_of HT_.out (by kernel_rfl)) (by decide) (fun K hK => ?_)
     refine goes_ Tryz.func50 (by kernel_rfl) rfl #[.int .i64 a0_0] (by rfl) rfl rfl (by (try simp only [List.map_toArray, List.map_cons, List.map_nil]); first | done | rfl | (simp only [List.length_drop, List.length_take]; rfl)) ?_
     with_reducible refine (environref02_Of.calls k a0_0 t377 _ A3.out).mono ?_
     rintro e w11 ⟨v378, rfl, ho0, hb⟩
     refine ⟨_, rfl, ?_⟩
     have HO379 := Aside0.mk (Kd.R_lower ho0 (below_size (bw HB)))
     replace BK376 := Aside0.mk (bb BK376 hb)
     replace HB := Aside0.mk (below_step (bw HB) hb)
     (try clear hb)
     (try clear hb2)
     (try clear hk)
     (try clear hi)
     (try clear ho0)
     refine hK.out _ _ ⟨(blk_cell BK376.out 0).trans rfl, (blk_cell BK376.out 1).trans rfl⟩ (fun hHeld => ?_)
     clear hK K
     refine norm_ (a' := ?_) ?_ ?_
     rotate_left
     ·show Act.put _ (some 10) _ = _
      simp only [sx, i64_w, i32_w]
      rfl
     refine pu 7 5 (bl 9 255) HT_ ?_
     refine pu 8 6 (bl 9 511) HT_ ?_
     refine done_ (done_of HT_.out (by kernel_rfl)) ?_
     try go_wp2_with (first | ((with_reducible refine gate_dst (N := 18) rfl ?_); refine Kd.R_make (Kd.int .i64) _ 3 rfl (N := 18) rfl 68 _ _ rfl ji5 rfl rfl Tryz.underlying68 (.int .i64 0) 8 info3 rfl (by decide) (by omega) 0 (ok := fun _ => True) (okp := fun _ => True) rfl (fun _ hk => hk) trivial (of_decide_eq_true (by first | (with_reducible assumption) | assumption)) (Nat.le_trans (Nat.mul_le_mul_right _ (of_decide_eq_true (by first | (with_reducible assumption) | assumption) : ji5.toNat ≤ 35184372088832)) (by omega)) (Below.refl _ _) (Nat.le_refl _) ?_; intro v381 w12 ho13 hb hg_ hnew_; clear hg_ hnew_; (first | rw [← Ny380.out] at ho13 | (simp only [Int.reduceToNat] at ho13; rw [← Ny380.out] at ho13)); have HO382 := Aside0.mk (Kd.R_lower (Kd.R_new' ho13 (Kd.R_lt (by (with_reducible repeat (first | apply Kd.R_alloc | apply Kd.R_drewN | apply Kd.R_drew)); exact HO379.out))) (below_size (bw HB))); replace HO379 := Aside0.mk (Kd.R_elder' (by (with_reducible repeat (first | apply Kd.R_alloc | apply Kd.R_drewN | apply Kd.R_drew)); exact HO379.out) (Kd.R_base ho13) hb); replace BK376 := Aside0.mk (bb BK376 hb); replace HB := Aside0.mk (below_step (bw HB) hb); clear hb ho13; obtain ⟨Ao15, co15, eo15⟩ := Kd.R_slice HO379.out; subst eo15) | ((with_reducible refine gate_builtin (b := .append) (xs := #[.tmp 18, .tmp 19]) rfl ?_); at_builtin; refine Kd.R_append_rows (Kd.int .i64) (w0 := w) w.heap.size rfl (.tmp 18) (.tmp 19) 68 3 (.int .i64 0) 8 rfl Tryz.underlying68 info3 rfl (by decide) (by omega) v381 y380 t377 _ _ _ (fun k_ => some k_ ≠ (.slice Ao15 t377.length co15 : Value).ownBlock) (fun _ => False) rfl rfl ?aO ?aR (fun _ _ h => h) (fun _ h => h.elim) ?aF ?aB ?aS ?aL ?_; (case aR => repeat (first | exact (Kd.R_reads' HO379.out).2.2 | (with_reducible refine Kd.C_alloc ?_ _) | (with_reducible refine Kd.C_drewN ?_ _) | (with_reducible refine Kd.C_drew ?_))); (case aB => exact (bw HB)); (case aF => exact (fun k_ hk => Kd.fresh' (Kd.R_lt (by (with_reducible repeat (first | apply Kd.R_alloc | apply Kd.R_drewN | apply Kd.R_drew)); exact HO379.out)) k_ hk)); (case aO => exact (by (with_reducible repeat (first | apply Kd.R_alloc | apply Kd.R_drewN | apply Kd.R_drew)); exact Kd.R_mono HO382.out (fun _ hk => hk.2))); (case aS => exact (below_size (bw HB))); (case aL => have := LMc8.out; omega); intro v384 w14 ho hb hg hat; rw [← Ny383.out] at ho; replace BK376 := Aside0.mk (blk_grown (g := gb376) (o := .cells #[.int .i64 a0_0, .int .i64 a0_1] 23 (0, 0)) (bk BK376) hg (Kd.R_ne HO382.out BK376.out (by decide))); replace HO379 := Aside0.mk (Kd.R_after (ok := (fun _ => True)) (by (with_reducible repeat (first | apply Kd.R_alloc | apply Kd.R_drewN | apply Kd.R_drew)); exact HO379.out) hg hat); replace HB := Aside0.mk (hb); have HO385 := Aside0.mk (ho); clear HO382; clear ho hb hg hat))
     go_ret
     exact ⟨_, by first | rfl | (simp [errW_none, errW_some] <;> rfl) | (simp only [← hji5]; first | rfl | (simp [errW_none, errW_some] <;> rfl)) | (simp [*, errW_none, errW_some] <;> rfl), Kd.Q_of_R (by (with_reducible repeat (first | apply Kd.R_alloc | apply Kd.R_drewN | apply Kd.R_drew)); exact Kd.R_mono HO385.out (fun _ hk => trivial)), bw HB⟩
    ·rw [if_neg c8] at H
     exact absurd H (by simp)
   ·rw [if_neg c7] at H
    exact absurd H (by simp)
  ·rw [if_neg c6] at H
   exact absurd H (by simp)
 ·rw [if_neg c4] at H
  have c4b0 : decide (0 ≤ (wrap64 (a0_1 + a1))) = false := decide_eq_false c4
  clear c4
  by_cases c16 : (wrap64 (-(wrap64 (a0_1 + a1)))) > (t377.length : Int)
  ·rw [if_pos c16] at H
   have c16b0 : decide ((t377.length : Int) < (wrap64 (-(wrap64 (a0_1 + a1))))) = true := decide_eq_true c16
   clear c16
   obtain ⟨y386, hy386⟩ : ∃ y_ : List Int, y_ = (([] : List Int)) := ⟨_, rfl⟩
   replace H : (some y386) = some r := by first | (rw [hy386]; with_reducible exact H) | (have H2_ := (Option.bind_some _ _).symm.trans H; rw [hy386]; with_reducible exact H2_) | (have H2_ := (Option.bind_some _ _).symm.trans H; with_reducible exact H2_) | with_reducible exact H | (rw [hy386]; exact H) | exact H
   have Ny386 := Aside0.mk hy386
   clear hy386
   obtain rfl := Option.some.inj H
   go_enter Tryz.func54, Tryz.ntmps54
   try go_wp2_with (first | ((with_reducible refine gate_dst (N := 2) rfl ?_); refine box_event ?hg (N := 2) ?hd (cs := #[.int .i64 a0_0, .int .i64 a0_1]) (t := 23) ?hr ?_; (case hd => rfl); (case hg => rfl); (case hr => first | (go_simp; done) | (go_simp; rfl)); intro gb376 hg w17 hbox hb; have BK376 := Aside0.mk (hbox); have GW376 := Aside0.mk (bs HB hg : w.heap.size ≤ gb376); replace HB := Aside0.mk (below_step (bw HB) hb); clear hb hbox hg))
   replace BK376 := Aside0.mk (blk_drew BK376.out)
   replace HB := Aside0.mk (below_drew1 HB.out)
   refine start_ (n := 9) (S := fun w' => w'.cell? ⟨gb376, 0, none⟩ = some (.int .i64 a0_0) ∧ w'.cell? ⟨gb376, 1, none⟩ = some (.int .i64 a0_1)) (ds := []) #[false, false, false, false, false, false, false, false, false] (by kernel_rfl) rfl rfl ⟨(blk_cell BK376.out 0).trans rfl, (blk_cell BK376.out 1).trans rfl⟩ (fun hHeld => ?_); refine with_tabW environref03_rounded.tab1 environref03_rounded.bits1 (fun HT_ HW_ => ?_)
   generalize w17.drew = w18 at BK376 HB hHeld ⊢
   refine pu 0 8 (bl 9 1) HT_ ?_
   refine pu 3 11 (bl 9 9) HT_ ?_
   refine pu 5 13 (bl 9 41) HT_ ?_
   refine ta 1 9 (bl 9 43) HT_ HW_ hHeld ?_
   refine ta 4 12 (bl 9 59) HT_ HW_ hHeld ?_
   refine pu 6 14 (bl 9 123) HT_ ?_
   refine one_ (i := 2) (N := some 10) #[true, true, true, true, true, true, true, false, false] rfl rfl (one_of HT_.out (by kernel_rfl)) (by decide) (fun K hK => ?_)
   refine goes_ Tryz.func50 (by kernel_rfl) rfl #[.int .i64 a0_0] (by rfl) rfl rfl (by (try simp only [List.map_toArray, List.map_cons, List.map_nil]); first | done | rfl | (simp only [List.length_drop, List.length_take]; rfl)) ?_
   with_reducible refine (environref02_Of.calls k a0_0 t377 _ A3.out).mono ?_
   rintro e w19 ⟨v378, rfl, ho0, hb⟩
   refine ⟨_, rfl, ?_⟩
   have HO379 := Aside0.mk (Kd.R_lower ho0 (below_size (bw HB)))
   replace BK376 := Aside0.mk (bb BK376 hb)
   replace HB := Aside0.mk (below_step (bw HB) hb)
   (try clear hb)
   (try clear hb2)
   (try clear hk)
   (try clear hi)
   (try clear ho0)
   refine hK.out _ _ ⟨(blk_cell BK376.out 0).trans rfl, (blk_cell BK376.out 1).trans rfl⟩ (fun hHeld => ?_)
   clear hK K
   refine norm_ (a' := ?_) ?_ ?_
   rotate_left
   ·show Act.put _ (some 10) _ = _
    simp only [sx, i64_w, i32_w]
    rfl
   refine pu 7 5 (bl 9 255) HT_ ?_
   refine pu 8 6 (bl 9 511) HT_ ?_
   refine done_ (done_of HT_.out (by kernel_rfl)) ?_
   obtain ⟨Ao20, co20, eo20⟩ := Kd.R_slice HO379.out
   subst eo20
   try go_wp2_with (first | ((with_reducible refine gate_dst (N := 26) rfl ?_); refine Kd.R_lit (Kd.int .i64) _ 3 ?hg (N := 26) ?hd (xs := ([] : List Int)) (inner := []) (ok := fun _ => True) (okp := fun _ => True) ?hr ?hp (fun _ hk => hk) trivial (Below.refl _ _) (Nat.le_refl _) (by simp) ?_; (case hd => rfl); (case hg => rfl); (case hr => first | (go_simp; done) | (go_simp; rfl)); (case hp => exact (Reps.none _ _)); intro v387 w21 ho22 hb hg_ hnew_; clear hg_ hnew_; (first | rw [← Ny386.out] at ho22 | (simp only [Int.reduceToNat] at ho22; rw [← Ny386.out] at ho22)); have HO388 := Aside0.mk (Kd.R_lower (Kd.R_new' ho22 (Kd.R_lt (by (with_reducible repeat (first | apply Kd.R_alloc | apply Kd.R_drewN | apply Kd.R_drew)); exact HO379.out))) (below_size (bw HB))); replace HO379 := Aside0.mk (Kd.R_elder' (by (with_reducible repeat (first | apply Kd.R_alloc | apply Kd.R_drewN | apply Kd.R_drew)); exact HO379.out) (Kd.R_base ho22) hb); replace BK376 := Aside0.mk (bb BK376 hb); replace HB := Aside0.mk (below_step (bw HB) hb); clear hb ho22))
   go_ret
   exact ⟨_, by first | rfl | (simp [errW_none, errW_some] <;> rfl) | (simp [*, errW_none, errW_some] <;> rfl), Kd.Q_of_R (by (with_reducible repeat (first | apply Kd.R_alloc | apply Kd.R_drewN | apply Kd.R_drew)); exact Kd.R_mono HO388.out (fun _ hk => trivial)), bw HB⟩
  ·rw [if_neg c16] at H
   have c16b0 : decide ((t377.length : Int) < (wrap64 (-(wrap64 (a0_1 + a1))))) = false := decide_eq_false c16
   clear c16
   obtain ⟨ji23, hji23⟩ : ∃ j_ : Int, (wrap64 ((wrap64 (-(wrap64 (a0_1 + a1)))) - 1)) = j_ := ⟨_, rfl⟩
   replace H : (if 0 ≤ (ji23) then (if (ji23) < (t377.length : Int) then (if 0 ≤ (wrap64 (-(wrap64 (a0_1 + a1)))) then (if (wrap64 (-(wrap64 (a0_1 + a1)))) ≤ (t377.length : Int) then ((some (t377.drop ((wrap64 (-(wrap64 (a0_1 + a1)))) : Int).toNat : List Int)).bind fun y390 => (if (rd t377 (ji23)) ≥ 5 then ((environref03_next.f k y390).bind fun t393 => (some t393)) else (some y390))) else (none)) else (none)) else (none)) else (none)) = some r := by first | (rw [hji23] at H; exact H) | (simp only [hji23] at H ⊢; exact H)
   (try rw [hji23] at A3)
   have hji23w : (IntKind.i64.wrap ((wrap64 (-(wrap64 (a0_1 + a1)))) - 1)) = ji23 := (i64_w _).trans hji23
   by_cases c24 : 0 ≤ (ji23)
   ·rw [if_pos c24] at H
    have c24b0 : decide (0 ≤ (ji23)) = true := decide_eq_true c24
    clear c24
    by_cases c25 : (ji23) < (t377.length : Int)
    ·rw [if_pos c25] at H
     have c25b0 : decide ((ji23) < (t377.length : Int)) = true := decide_eq_true c25
     clear c25
     obtain ⟨ji26, hji26⟩ : ∃ j_ : Int, (wrap64 (-(wrap64 (a0_1 + a1)))) = j_ := ⟨_, rfl⟩
     replace H : (if 0 ≤ (ji26) then (if (ji26) ≤ (t377.length : Int) then ((some (t377.drop ((ji26) : Int).toNat : List Int)).bind fun y390 => (if (rd t377 (ji23)) ≥ 5 then ((environref03_next.f k y390).bind fun t393 => (some t393)) else (some y390))) else (none)) else (none)) = some r := by first | (rw [hji26] at H; exact H) | (simp only [hji26] at H ⊢; exact H)
     (try rw [hji26] at c16b0)
     (try rw [hji26] at A3)
     have hji26w : (IntKind.i64.wrap (-(wrap64 (a0_1 + a1)))) = ji26 := (i64_w _).trans hji26
     have hji23s : wrap64 (ji26 - 1) = ji23 := by rw [← hji26]; exact hji23
     have hji23sw : IntKind.i64.wrap (ji26 - 1) = ji23 := (i64_w _).trans hji23s
     by_cases c27 : 0 ≤ (ji26)
     ·rw [if_pos c27] at H
      have c27b0 := eq_true c27
      have c27b1 : decide (0 ≤ (ji26)) = true := decide_eq_true c27
      clear c27
      by_cases c28 : (ji26) ≤ (t377.length : Int)
      ·rw [if_pos c28] at H
       have c28b0 := eq_true c28
       have c28b1 : decide ((ji26) ≤ (t377.length : Int)) = true := decide_eq_true c28
       clear c28
       obtain ⟨y390, hy390⟩ : ∃ y_ : List Int, y_ = (t377.drop ((ji26) : Int).toNat) := ⟨_, rfl⟩
       replace H : (if (rd t377 (ji23)) ≥ 5 then ((environref03_next.f k y390).bind fun t393 => (some t393)) else (some y390)) = some r := by first | (rw [hy390]; with_reducible exact H) | (have H2_ := (Option.bind_some _ _).symm.trans H; rw [hy390]; with_reducible exact H2_) | (have H2_ := (Option.bind_some _ _).symm.trans H; with_reducible exact H2_) | with_reducible exact H | (rw [hy390]; exact H) | exact H
       have Ny390 := Aside0.mk hy390
       clear hy390
       by_cases c29 : (rd t377 (ji23)) ≥ 5
       ·rw [if_pos c29] at H
        have c29b0 : decide (5 ≤ (rd t377 (ji23))) = true := decide_eq_true c29
        clear c29
        replace H := Option.bind_eq_some_iff.mp H
        obtain ⟨t393, A300, H⟩ := H
        replace H : (some t393) = some r := H
        have A30 := Aside0.mk A300
        clear A300
        obtain rfl := Option.some.inj H
        go_enter Tryz.func54, Tryz.ntmps54
        try go_wp2_with (first | ((with_reducible refine gate_dst (N := 2) rfl ?_); refine box_event ?hg (N := 2) ?hd (cs := #[.int .i64 a0_0, .int .i64 a0_1]) (t := 23) ?hr ?_; (case hd => rfl); (case hg => rfl); (case hr => first | (go_simp; done) | (go_simp; rfl)); intro gb376 hg w31 hbox hb; have BK376 := Aside0.mk (hbox); have GW376 := Aside0.mk (bs HB hg : w.heap.size ≤ gb376); replace HB := Aside0.mk (below_step (bw HB) hb); clear hb hbox hg))
        replace BK376 := Aside0.mk (blk_drew BK376.out)
        replace HB := Aside0.mk (below_drew1 HB.out)
        refine start_ (n := 9) (S := fun w' => w'.cell? ⟨gb376, 0, none⟩ = some (.int .i64 a0_0) ∧ w'.cell? ⟨gb376, 1, none⟩ = some (.int .i64 a0_1)) (ds := []) #[false, false, false, false, false, false, false, false, false] (by kernel_rfl) rfl rfl ⟨(blk_cell BK376.out 0).trans rfl, (blk_cell BK376.out 1).trans rfl⟩ (fun hHeld => ?_); refine with_tabW environref03_rounded.tab1 environref03_rounded.bits1 (fun HT_ HW_ => ?_)
        generalize w31.drew = w32 at BK376 HB hHeld ⊢
        refine pu 0 8 (bl 9 1) HT_ ?_
        refine pu 3 11 (bl 9 9) HT_ ?_
        refine pu 5 13 (bl 9 41) HT_ ?_
        refine ta 1 9 (bl 9 43) HT_ HW_ hHeld ?_
        refine ta 4 12 (bl 9 59) HT_ HW_ hHeld ?_
        refine pu 6 14 (bl 9 123) HT_ ?_
        refine one_ (i := 2) (N := some 10) #[true, true, true, true, true, true, true, false, false] rfl rfl (one_of HT_.out (by kernel_rfl)) (by decide) (fun K hK => ?_)
        refine goes_ Tryz.func50 (by kernel_rfl) rfl #[.int .i64 a0_0] (by rfl) rfl rfl (by (try simp only [List.map_toArray, List.map_cons, List.map_nil]); first | done | rfl | (simp only [List.length_drop, List.length_take]; rfl)) ?_
        with_reducible refine (environref02_Of.calls k a0_0 t377 _ A3.out).mono ?_
        rintro e w33 ⟨v378, rfl, ho0, hb⟩
        refine ⟨_, rfl, ?_⟩
        have HO379 := Aside0.mk (Kd.R_lower ho0 (below_size (bw HB)))
        replace BK376 := Aside0.mk (bb BK376 hb)
        replace HB := Aside0.mk (below_step (bw HB) hb)
        (try clear hb)
        (try clear hb2)
        (try clear hk)
        (try clear hi)
        (try clear ho0)
        refine hK.out _ _ ⟨(blk_cell BK376.out 0).trans rfl, (blk_cell BK376.out 1).trans rfl⟩ (fun hHeld => ?_)
        clear hK K
        refine norm_ (a' := ?_) ?_ ?_
        rotate_left
        ·show Act.put _ (some 10) _ = _
         simp only [sx, i64_w, i32_w]
         rfl
        refine pu 7 5 (bl 9 255) HT_ ?_
        refine pu 8 6 (bl 9 511) HT_ ?_
        refine done_ (done_of HT_.out (by kernel_rfl)) ?_
        obtain ⟨Ao34, co34, eo34⟩ := Kd.R_slice HO379.out
        subst eo34
        have p389 : 0 ≤ ((ji23) : Int) := of_decide_eq_true (by first | (with_reducible assumption) | assumption)
        have q389 : (ji23) < (t377.length : Int) := of_decide_eq_true (by first | (with_reducible assumption) | assumption)
        obtain ⟨ad389, e389, hx389_0⟩ := Kd.at_int (Kd.R_reads' HO379.out).2.2 (ji23) p389 q389
        cases e389
        replace p389 := eq_true p389
        replace q389 := eq_true q389
        have q35 : ((ji26) : Int) ≤ ((t377.length : Int) : Int) := of_decide_eq_true (by first | (with_reducible assumption) | assumption)
        obtain ⟨i035, hi035, _, hsz35, _⟩ := info_parts info3
        have hcut35 := cut_from (P := Tryz.prog) 68 3 .i64 Tryz.underlying68 hi035 1 hsz35 (some ad389) t377.length co34 (ji26) (of_decide_eq_true (by first | (with_reducible assumption) | assumption)) q35
        have hr35 := Kd.Q_drop (k := ((ji26) : Int).toNat) (Kd.Q_of_R HO379.out) (by omega)
        obtain ⟨A35, hA35⟩ : ∃ A1, A1 = (if co34 = ((ji26) : Int).toNat then (some ad389) else ((some ad389) : Option Addr).map (·.add (((ji26) : Int).toNat * 1))) := ⟨_, rfl⟩
        obtain ⟨c35, hc35⟩ : ∃ c1, c1 = co34 - ((ji26) : Int).toNat := ⟨_, rfl⟩
        have hy35 : y390.length = t377.length - ((ji26) : Int).toNat := (by rw [Ny390.out, List.length_drop])
        rw [← Ny390.out] at hr35
        rw [← hy35, ← hA35, ← hc35] at hcut35
        replace hr35 : Kd.Q (Kd.int .i64) 3 w33 w.heap.size (fun _ => True) (.slice A35 y390.length c35) y390 := (by rw [hA35, hc35, hy35]; exact hr35)
        have HE35 : Aside0 ((Value.slice A35 y390.length c35).ownBlock = (.slice (some ad389) t377.length co34 : Value).ownBlock) := ⟨by rw [hA35]; split <;> (cases ((some ad389) : Option Addr) <;> first | rfl | (simp only [Option.map_some, Value.ownBlock]; unfold Addr.add; split <;> rfl))⟩
        clear hy35 hi035 hsz35 HO379 hA35 hc35
        have HO392 := Aside0.mk hr35
        clear hr35
        replace q35 := eq_true q35
        try go_wp2_with (first | ((with_reducible refine gate_callee (f := 91) rfl ?_); refine goesL_ (some 40) rfl rfl Tryz.func91 (by kernel_rfl) rfl #[.slice A35 y390.length c35] rfl (by (try simp only [List.map_toArray, List.map_cons, List.map_nil]); first | done | rfl | (simp only [List.length_drop, List.length_take]; rfl)) ?_; (with_reducible refine (environref03_next.calls k _ _ y390 t393 _ ?side1 ?side2 A30.out).mono ?_); (case side1 => repeat (first | exact (Kd.Q_reads' HO392.out).2.2 | (with_reducible refine Kd.C_alloc ?_ _) | (with_reducible refine Kd.C_drewN ?_ _) | (with_reducible refine Kd.C_drew ?_))); (case side2 => exact (Kd.Q_reads' HO392.out).2.1); rintro e w36 ⟨v394, rfl, ho0, hb⟩; refine ⟨_, rfl, ?_⟩; have HO395 := Aside0.mk (Kd.R_lower (Kd.R_new' ho0 (Kd.Q_lt (by (with_reducible repeat (first | apply Kd.Q_alloc | apply Kd.Q_drewN | apply Kd.Q_drew)); exact HO392.out))) (below_size (bw HB))); replace HO392 := Aside0.mk (Kd.Q_elder' (by (with_reducible repeat (first | apply Kd.Q_alloc | apply Kd.Q_drewN | apply Kd.Q_drew)); exact HO392.out) (Kd.R_base ho0) hb); replace BK376 := Aside0.mk (bb BK376 hb); replace HB := Aside0.mk (below_step (bw HB) hb); (try clear hb); (try clear hb2); (try clear hk); (try clear hi); (try clear ho0)))
        go_ret
        exact ⟨_, by first | rfl | (simp [errW_none, errW_some] <;> rfl) | (simp only [← hji23, ← hji26]; first | rfl | (simp [errW_none, errW_some] <;> rfl)) | (simp [*, errW_none, errW_some] <;> rfl), Kd.Q_of_R (by (with_reducible repeat (first | apply Kd.R_alloc | apply Kd.R_drewN | apply Kd.R_drew)); exact Kd.R_mono HO395.out (fun _ hk => trivial)), bw HB⟩
       ·rw [if_neg c29] at H
        have c29b0 : decide (5 ≤ (rd t377 (ji23))) = false := decide_eq_false c29
        clear c29
        obtain rfl := Option.some.inj H
        go_enter Tryz.func54, Tryz.ntmps54
        try go_wp2_with (first | ((with_reducible refine gate_dst (N := 2) rfl ?_); refine box_event ?hg (N := 2) ?hd (cs := #[.int .i64 a0_0, .int .i64 a0_1]) (t := 23) ?hr ?_; (case hd => rfl); (case hg => rfl); (case hr => first | (go_simp; done) | (go_simp; rfl)); intro gb376 hg w37 hbox hb; have BK376 := Aside0.mk (hbox); have GW376 := Aside0.mk (bs HB hg : w.heap.size ≤ gb376); replace HB := Aside0.mk (below_step (bw HB) hb); clear hb hbox hg))
        replace BK376 := Aside0.mk (blk_drew BK376.out)
        replace HB := Aside0.mk (below_drew1 HB.out)
        refine start_ (n := 9) (S := fun w' => w'.cell? ⟨gb376, 0, none⟩ = some (.int .i64 a0_0) ∧ w'.cell? ⟨gb376, 1, none⟩ = some (.int .i64 a0_1)) (ds := []) #[false, false, false, false, false, false, false, false, false] (by kernel_rfl) rfl rfl ⟨(blk_cell BK376.out 0).trans rfl, (blk_cell BK376.out 1).trans rfl⟩ (fun hHeld => ?_); refine with_tabW environref03_rounded.tab1 environref03_rounded.bits1 (fun HT_ HW_ => ?_)
        generalize w37.drew = w38 at BK376 HB hHeld ⊢
        refine pu 0 8 (bl 9 1) HT_ ?_
        refine pu 3 11 (bl 9 9) HT_ ?_
        refine pu 5 13 (bl 9 41) HT_ ?_
        refine ta 1 9 (bl 9 43) HT_ HW_ hHeld ?_
        refine ta 4 12 (bl 9 59) HT_ HW_ hHeld ?_
        refine pu 6 14 (bl 9 123) HT_ ?_
        refine one_ (i := 2) (N := some 10) #[true, true, true, true, true, true, true, false, false] rfl rfl (one_of HT_.out (by kernel_rfl)) (by decide) (fun K hK => ?_)
        refine goes_ Tryz.func50 (by kernel_rfl) rfl #[.int .i64 a0_0] (by rfl) rfl rfl (by (try simp only [List.map_toArray, List.map_cons, List.map_nil]); first | done | rfl | (simp only [List.length_drop, List.length_take]; rfl)) ?_
        with_reducible refine (environref02_Of.calls k a0_0 t377 _ A3.out).mono ?_
        rintro e w39 ⟨v378, rfl, ho0, hb⟩
        refine ⟨_, rfl, ?_⟩
        have HO379 := Aside0.mk (Kd.R_lower ho0 (below_size (bw HB)))
        replace BK376 := Aside0.mk (bb BK376 hb)
        replace HB := Aside0.mk (below_step (bw HB) hb)
        (try clear hb)
        (try clear hb2)
        (try clear hk)
        (try clear hi)
        (try clear ho0)
        refine hK.out _ _ ⟨(blk_cell BK376.out 0).trans rfl, (blk_cell BK376.out 1).trans rfl⟩ (fun hHeld => ?_)
        clear hK K
        refine norm_ (a' := ?_) ?_ ?_
        rotate_left
        ·show Act.put _ (some 10) _ = _
         simp only [sx, i64_w, i32_w]
         rfl
        refine pu 7 5 (bl 9 255) HT_ ?_
        refine pu 8 6 (bl 9 511) HT_ ?_
        refine done_ (done_of HT_.out (by kernel_rfl)) ?_
        obtain ⟨Ao40, co40, eo40⟩ := Kd.R_slice HO379.out
        subst eo40
        have p389 : 0 ≤ ((ji23) : Int) := of_decide_eq_true (by first | (with_reducible assumption) | assumption)
        have q389 : (ji23) < (t377.length : Int) := of_decide_eq_true (by first | (with_reducible assumption) | assumption)
        obtain ⟨ad389, e389, hx389_0⟩ := Kd.at_int (Kd.R_reads' HO379.out).2.2 (ji23) p389 q389
        cases e389
        replace p389 := eq_true p389
        replace q389 := eq_true q389
        have q41 : ((ji26) : Int) ≤ ((t377.length : Int) : Int) := of_decide_eq_true (by first | (with_reducible assumption) | assumption)
        obtain ⟨i041, hi041, _, hsz41, _⟩ := info_parts info3
        have hcut41 := cut_from (P := Tryz.prog) 68 3 .i64 Tryz.underlying68 hi041 1 hsz41 (some ad389) t377.length co40 (ji26) (of_decide_eq_true (by first | (with_reducible assumption) | assumption)) q41
        have hr41 := Kd.Q_drop (k := ((ji26) : Int).toNat) (Kd.Q_of_R HO379.out) (by omega)
        obtain ⟨A41, hA41⟩ : ∃ A1, A1 = (if co40 = ((ji26) : Int).toNat then (some ad389) else ((some ad389) : Option Addr).map (·.add (((ji26) : Int).toNat * 1))) := ⟨_, rfl⟩
        obtain ⟨c41, hc41⟩ : ∃ c1, c1 = co40 - ((ji26) : Int).toNat := ⟨_, rfl⟩
        have hy41 : y390.length = t377.length - ((ji26) : Int).toNat := (by rw [Ny390.out, List.length_drop])
        rw [← Ny390.out] at hr41
        rw [← hy41, ← hA41, ← hc41] at hcut41
        replace hr41 : Kd.Q (Kd.int .i64) 3 w39 w.heap.size (fun _ => True) (.slice A41 y390.length c41) y390 := (by rw [hA41, hc41, hy41]; exact hr41)
        have HE41 : Aside0 ((Value.slice A41 y390.length c41).ownBlock = (.slice (some ad389) t377.length co40 : Value).ownBlock) := ⟨by rw [hA41]; split <;> (cases ((some ad389) : Option Addr) <;> first | rfl | (simp only [Option.map_some, Value.ownBlock]; unfold Addr.add; split <;> rfl))⟩
        clear hy41 hi041 hsz41 HO379 hA41 hc41
        have HO392 := Aside0.mk hr41
        clear hr41
        replace q41 := eq_true q41
        try go_wp2
        go_ret
        exact ⟨_, by first | rfl | (simp [errW_none, errW_some] <;> rfl) | (simp only [← hji23, ← hji26]; first | rfl | (simp [errW_none, errW_some] <;> rfl)) | (simp [*, errW_none, errW_some] <;> rfl), by (with_reducible repeat (first | apply Kd.Q_alloc | apply Kd.Q_drewN | apply Kd.Q_drew)); exact HO392.out, bw HB⟩
      ·rw [if_neg c28] at H
       exact absurd H (by simp)
     ·rw [if_neg c27] at H
      exact absurd H (by simp)
    ·rw [if_neg c25] at H
     exact absurd H (by simp)
   ·rw [if_neg c24] at H
    exact absurd H (by simp)

/-! ### environref03_point: function 51 -/
def environref03_point.j0 : Nat → Int → ByteArray → Option (ByteArray)
 | 0, _, _ => none
 | k + 1, x1, x5 => if (x5.size : Int) ≤ x1 then ((environref03_repeat.f k 48 (wrap64 ((wrap64 (x1 + 1)) - (x5.size : Int)))).bind fun t401 => (if t401.size + x5.size ≤ 9223372036854775807 then (if x1 = 0 then (some (t401 ++ x5)) else (if 0 ≤ (wrap64 (((t401 ++ x5).size : Int) - x1)) then (if (wrap64 (((t401 ++ x5).size : Int) - x1)) ≤ ((t401 ++ x5).size : Int) then (if ((t401 ++ x5).extract 0 ((wrap64 (((t401 ++ x5).size : Int) - x1)) : Int).toNat).size + 1 ≤ 9223372036854775807 then (if (((t401 ++ x5).extract 0 ((wrap64 (((t401 ++ x5).size : Int) - x1)) : Int).toNat) ++ (⟨#[46]⟩ : ByteArray)).size + ((t401 ++ x5).extract ((wrap64 (((t401 ++ x5).size : Int) - x1)) : Int).toNat (t401 ++ x5).size).size ≤ 9223372036854775807 then (some ((((t401 ++ x5).extract 0 ((wrap64 (((t401 ++ x5).size : Int) - x1)) : Int).toNat) ++ (⟨#[46]⟩ : ByteArray)) ++ ((t401 ++ x5).extract ((wrap64 (((t401 ++ x5).size : Int) - x1)) : Int).toNat (t401 ++ x5).size))) else (none)) else (none)) else (none)) else (none))) else (none))) else (if x1 = 0 then (some x5) else (if 0 ≤ (wrap64 ((x5.size : Int) - x1)) then (if (wrap64 ((x5.size : Int) - x1)) ≤ (x5.size : Int) then (if (x5.extract 0 ((wrap64 ((x5.size : Int) - x1)) : Int).toNat).size + 1 ≤ 9223372036854775807 then (if ((x5.extract 0 ((wrap64 ((x5.size : Int) - x1)) : Int).toNat) ++ (⟨#[46]⟩ : ByteArray)).size + (x5.extract ((wrap64 ((x5.size : Int) - x1)) : Int).toNat x5.size).size ≤ 9223372036854775807 then (some (((x5.extract 0 ((wrap64 ((x5.size : Int) - x1)) : Int).toNat) ++ (⟨#[46]⟩ : ByteArray)) ++ (x5.extract ((wrap64 ((x5.size : Int) - x1)) : Int).toNat x5.size))) else (none)) else (none)) else (none)) else (none)))
def environref03_point.f (k : Nat) (a0_0 : Int) (a0_1 : Int) (a1 : Int) : Option (ByteArray) := (environref03_rounded.f k a0_0 a0_1 a1).bind fun t397 => ((environref03_decimal.f k t397).bind fun t400 => (if a0_0 = 0 then (environref03_point.j0 k a1 (⟨#[48]⟩ : ByteArray)) else (environref03_point.j0 k a1 t400)))
theorem environref03_point.mono_l : ∀ k, (∀ y0 y1, LeO (environref03_point.j0 k y0 y1) (environref03_point.j0 (k + 1) y0 y1))
 | 0 => fun _ _ r h => by simp [environref03_point.j0] at h
 | k + 1 => by
  have ih0 := environref03_point.mono_l k
  ·intro y0 y1
   unfold environref03_point.j0
   repeat' first
   | (with_reducible exact ih0 _ _)
   | (with_reducible exact environref03_decimal.mono _ _)
   | (with_reducible exact environref03_repeat.mono _ _ _)
   | (with_reducible exact environref03_rounded.mono _ _ _ _)
   | (with_reducible exact LeO.refl _)
   | (with_reducible exact LeO.none _)
   | (with_reducible refine LeO.ite ?_ ?_)
   | (with_reducible refine LeO.bind ?_ (fun _ => ?_))
   | exact ih0 _ _
   | exact environref03_decimal.mono _ _
   | exact environref03_repeat.mono _ _ _
   | exact environref03_rounded.mono _ _ _ _
   | exact LeO.none _
   | refine LeO.ite ?_ ?_
   | refine LeO.bind ?_ (fun _ => ?_)
theorem environref03_point.mono : ∀ a0 a1 a2 k, LeO (environref03_point.f k a0 a1 a2) (environref03_point.f (k + 1) a0 a1 a2) := by
 intro a0 a1 a2 k
 have ih0 := environref03_point.mono_l k
 unfold environref03_point.f
 repeat' first
   | (with_reducible exact ih0 _ _)
   | (with_reducible exact environref03_decimal.mono _ _)
   | (with_reducible exact environref03_repeat.mono _ _ _)
   | (with_reducible exact environref03_rounded.mono _ _ _ _)
   | (with_reducible exact LeO.refl _)
   | (with_reducible exact LeO.none _)
   | (with_reducible refine LeO.ite ?_ ?_)
   | (with_reducible refine LeO.bind ?_ (fun _ => ?_))
   | exact ih0 _ _
   | exact environref03_decimal.mono _ _
   | exact environref03_repeat.mono _ _ _
   | exact environref03_rounded.mono _ _ _ _
   | exact LeO.none _
   | refine LeO.ite ?_ ?_
   | refine LeO.bind ?_ (fun _ => ?_)
set_option maxHeartbeats 8000000 in
set_option maxRecDepth 100000 in
theorem environref03_point.calls (k : Nat) (a0_0 : Int) (a0_1 : Int) (a1 : Int) (r : ByteArray) (w : World) (h : environref03_point.f k a0_0 a0_1 a1 = some r) :
  Calls Tryz.prog 51 #[.agg #[.int .i64 a0_0, .int .i64 a0_1], .int .i64 a1] w fun e w' => e = .returned (.string r) ∧ Below w.heap.size w w' := by
 have hu23 := Tryz.underlying23
 have HB := Aside0.mk (Below.refl w.heap.size w)
 have H : ((environref03_rounded.f k a0_0 a0_1 a1).bind fun t397 => ((environref03_decimal.f k t397).bind fun t400 => (if a0_0 = 0 then (environref03_point.j0 k a1 (⟨#[48]⟩ : ByteArray)) else (environref03_point.j0 k a1 t400)))) = some r := h
 clear h
 replace H := Option.bind_eq_some_iff.mp H
 obtain ⟨t397, A30, H⟩ := H
 replace H : ((environref03_decimal.f k t397).bind fun t400 => (if a0_0 = 0 then (environref03_point.j0 k a1 (⟨#[48]⟩ : ByteArray)) else (environref03_point.j0 k a1 t400))) = some r := H
 have A3 := Aside0.mk A30
 clear A30
 replace H := Option.bind_eq_some_iff.mp H
 obtain ⟨t400, A40, H⟩ := H
 replace H : (if a0_0 = 0 then (environref03_point.j0 k a1 (⟨#[48]⟩ : ByteArray)) else (environref03_point.j0 k a1 t400)) = some r := H
 have A4 := Aside0.mk A40
 clear A40
 have HC5 := Aside0.mk H
 clear H
 go_enter Tryz.func51, Tryz.ntmps51
 go_upto_if 12 with (first | ((with_reducible refine gate_dst (N := 2) rfl ?_); refine box_event ?hg (N := 2) ?hd (cs := #[.int .i64 a0_0, .int .i64 a0_1]) (t := 23) ?hr ?_; (case hd => rfl); (case hg => rfl); (case hr => first | (go_simp; done) | (go_simp; rfl)); intro gb396 hg w6 hbox hb; have BK396 := Aside0.mk (hbox); have GW396 := Aside0.mk (bs HB hg : w.heap.size ≤ gb396); replace HB := Aside0.mk (below_step (bw HB) hb); clear hb hbox hg; obtain ⟨hcz7_0, hcz7_1, hfz7_0, hfz7_1⟩ := cf2 BK396) | (go_at_call 54; (with_reducible refine (environref03_rounded.calls k a0_0 a0_1 a1 t397 _ A3.out).mono ?_); rintro e w8 ⟨v398, rfl, ho0, hb⟩; have HO399 := Aside0.mk (Kd.Q_lower ho0 (below_size (bw HB))); replace BK396 := Aside0.mk (bb BK396 hb); replace HB := Aside0.mk (below_step (bw HB) hb); (try clear hb); (try clear hb2); (try clear hk); (try clear hi); (try clear ho0); obtain ⟨Ao9, co9, eo9, _⟩ := Kd.Q_slice HO399.out; subst eo9) | (go_at_call 49; (with_reducible refine (environref03_decimal.calls k _ _ t397 t400 _ ?side1 ?side2 A4.out).mono ?_); (case side1 => repeat (first | exact (Kd.Q_reads' HO399.out).2.2 | (with_reducible refine Kd.C_alloc ?_ _) | (with_reducible refine Kd.C_drewN ?_ _) | (with_reducible refine Kd.C_drew ?_))); (case side2 => exact (Kd.Q_reads' HO399.out).2.1); rintro e w10 ⟨rfl, hb⟩; replace HO399 := Aside0.mk (Kd.Q_below (by (with_reducible repeat (first | apply Kd.Q_alloc | apply Kd.Q_drewN | apply Kd.Q_drew)); exact HO399.out) hb); replace BK396 := Aside0.mk (bb BK396 hb); replace HB := Aside0.mk (below_step (bw HB) hb); (try clear hb); (try clear hb2); (try clear hk); (try clear hi); obtain ⟨hcz11_0, hcz11_1, hfz11_0, hfz11_1⟩ := cf2 BK396))
 repeat (go_quiet (first | ((with_reducible refine gate_dst (N := 2) rfl ?_); refine box_event ?hg (N := 2) ?hd (cs := #[.int .i64 a0_0, .int .i64 a0_1]) (t := 23) ?hr ?_; (case hd => rfl); (case hg => rfl); (case hr => first | (go_simp; done) | (go_simp; rfl)); intro gb396 hg w6 hbox hb; have BK396 := Aside0.mk (hbox); have GW396 := Aside0.mk (bs HB hg : w.heap.size ≤ gb396); replace HB := Aside0.mk (below_step (bw HB) hb); clear hb hbox hg; obtain ⟨hcz7_0, hcz7_1, hfz7_0, hfz7_1⟩ := cf2 BK396) | (go_at_call 54; (with_reducible refine (environref03_rounded.calls k a0_0 a0_1 a1 t397 _ A3.out).mono ?_); rintro e w8 ⟨v398, rfl, ho0, hb⟩; have HO399 := Aside0.mk (Kd.Q_lower ho0 (below_size (bw HB))); replace BK396 := Aside0.mk (bb BK396 hb); replace HB := Aside0.mk (below_step (bw HB) hb); (try clear hb); (try clear hb2); (try clear hk); (try clear hi); (try clear ho0); obtain ⟨Ao9, co9, eo9, _⟩ := Kd.Q_slice HO399.out; subst eo9) | (go_at_call 49; (with_reducible refine (environref03_decimal.calls k _ _ t397 t400 _ ?side1 ?side2 A4.out).mono ?_); (case side1 => repeat (first | exact (Kd.Q_reads' HO399.out).2.2 | (with_reducible refine Kd.C_alloc ?_ _) | (with_reducible refine Kd.C_drewN ?_ _) | (with_reducible refine Kd.C_drew ?_))); (case side2 => exact (Kd.Q_reads' HO399.out).2.1); rintro e w10 ⟨rfl, hb⟩; replace HO399 := Aside0.mk (Kd.Q_below (by (with_reducible repeat (first | apply Kd.Q_alloc | apply Kd.Q_drewN | apply Kd.Q_drew)); exact HO399.out) hb); replace BK396 := Aside0.mk (bb BK396 hb); replace HB := Aside0.mk (below_step (bw HB) hb); (try clear hb); (try clear hb2); (try clear hk); (try clear hi); obtain ⟨hcz11_0, hcz11_1, hfz11_0, hfz11_1⟩ := cf2 BK396)); go_upto_if 12 with (first | ((with_reducible refine gate_dst (N := 2) rfl ?_); refine box_event ?hg (N := 2) ?hd (cs := #[.int .i64 a0_0, .int .i64 a0_1]) (t := 23) ?hr ?_; (case hd => rfl); (case hg => rfl); (case hr => first | (go_simp; done) | (go_simp; rfl)); intro gb396 hg w6 hbox hb; have BK396 := Aside0.mk (hbox); have GW396 := Aside0.mk (bs HB hg : w.heap.size ≤ gb396); replace HB := Aside0.mk (below_step (bw HB) hb); clear hb hbox hg; obtain ⟨hcz7_0, hcz7_1, hfz7_0, hfz7_1⟩ := cf2 BK396) | (go_at_call 54; (with_reducible refine (environref03_rounded.calls k a0_0 a0_1 a1 t397 _ A3.out).mono ?_); rintro e w8 ⟨v398, rfl, ho0, hb⟩; have HO399 := Aside0.mk (Kd.Q_lower ho0 (below_size (bw HB))); replace BK396 := Aside0.mk (bb BK396 hb); replace HB := Aside0.mk (below_step (bw HB) hb); (try clear hb); (try clear hb2); (try clear hk); (try clear hi); (try clear ho0); obtain ⟨Ao9, co9, eo9, _⟩ := Kd.Q_slice HO399.out; subst eo9) | (go_at_call 49; (with_reducible refine (environref03_decimal.calls k _ _ t397 t400 _ ?side1 ?side2 A4.out).mono ?_); (case side1 => repeat (first | exact (Kd.Q_reads' HO399.out).2.2 | (with_reducible refine Kd.C_alloc ?_ _) | (with_reducible refine Kd.C_drewN ?_ _) | (with_reducible refine Kd.C_drew ?_))); (case side2 => exact (Kd.Q_reads' HO399.out).2.1); rintro e w10 ⟨rfl, hb⟩; replace HO399 := Aside0.mk (Kd.Q_below (by (with_reducible repeat (first | apply Kd.Q_alloc | apply Kd.Q_drewN | apply Kd.Q_drew)); exact HO399.out) hb); replace BK396 := Aside0.mk (bb BK396 hb); replace HB := Aside0.mk (below_step (bw HB) hb); (try clear hb); (try clear hb2); (try clear hk); (try clear hi); obtain ⟨hcz11_0, hcz11_1, hfz11_0, hfz11_1⟩ := cf2 BK396)))
 (try simp only [sx])
 go_cut [5] (fun v5 wc => ∃ (kq : Nat) (x5_4 : ByteArray), v5 = .string x5_4 ∧ Aside0 (environref03_point.j0 kq a1 x5_4 = some r) ∧ Aside0 (kq ≤ k) ∧ Aside0 (wc.heap[gb396]? = some (.cells #[.int .i64 a0_0, .int .i64 a0_1] 23 (0, 0))) ∧ Aside0 (Below w.heap.size w wc))
 case first =>
  have H := HC5.out
  clear HC5
  by_cases c12 : a0_0 = 0
  ·rw [if_pos c12] at H
   have c12b0 : (a0_0 == 0) = true := beq_iff_eq.mpr c12
   have c12b1 : (a0_0 != 0) = false := bne_eq_false_iff_eq.mpr c12
   clear c12
   (first | rw [c12b0] | (simp only [i64_w, i32_w]; rw [c12b0]) | skip)
   have H' := Aside0.mk H
   clear H
   go_wp2
   repeat (go_quiet (fail); try go_wp2)
   go_meet
   case rel => exact ⟨_, ((⟨#[48]⟩ : ByteArray)), (by first | rfl | (simp; done) | (simp [*]; done)), H', ⟨by first | omega | exact Nat.le_refl _⟩, ⟨by (with_reducible repeat (first | refine blk_drewN ?_ _ | refine blk_drew ?_ | refine blk_alloc ?_ _)); exact BK396.out⟩, ⟨bw HB⟩⟩
  ·rw [if_neg c12] at H
   have c12b0 : (a0_0 == 0) = false := beq_eq_false_iff_ne.mpr c12
   have c12b1 : (a0_0 != 0) = true := bne_iff_ne.mpr c12
   (first | rw [c12b0] | (simp only [i64_w, i32_w]; rw [c12b0]) | skip)
   have H' := Aside0.mk H
   clear H
   go_wp2
   repeat (go_quiet (fail); try go_wp2)
   go_meet
   case rel => exact ⟨_, (t400), (by first | rfl | (simp; done) | (simp [*]; done)), H', ⟨by first | omega | exact Nat.le_refl _⟩, ⟨by (with_reducible repeat (first | refine blk_drewN ?_ _ | refine blk_drew ?_ | refine blk_alloc ?_ _)); exact BK396.out⟩, ⟨bw HB⟩⟩
 case rest =>
  clear HC5
  try clear c1
  try clear p2
  try clear c5
  try clear c12
  try clear c12b0
  try clear c12b1
  try clear hcz11_0
  try clear hcz11_1
  try clear hcz7_0
  try clear hcz7_1
  try clear hfz11_0
  try clear hfz11_1
  try clear hfz7_0
  try clear hfz7_1
  obtain ⟨kq, x5_4, rfl, HA, HJ4, BK396, HB⟩ := hcut
  cases kq with
  | zero => exact absurd HA.out (by simp [environref03_point.j0])
  | succ kj4 =>
   have H := HA.out
   clear HA
   simp only [environref03_point.j0] at H
   by_cases c13 : (x5_4.size : Int) ≤ a1
   ·rw [if_pos c13] at H
    have c13b0 : decide ((x5_4.size : Int) ≤ a1) = true := decide_eq_true c13
    clear c13
    replace H := Option.bind_eq_some_iff.mp H
    obtain ⟨t401, A140, H⟩ := H
    replace H : (if t401.size + x5_4.size ≤ 9223372036854775807 then (if a1 = 0 then (some (t401 ++ x5_4)) else (if 0 ≤ (wrap64 (((t401 ++ x5_4).size : Int) - a1)) then (if (wrap64 (((t401 ++ x5_4).size : Int) - a1)) ≤ ((t401 ++ x5_4).size : Int) then (if ((t401 ++ x5_4).extract 0 ((wrap64 (((t401 ++ x5_4).size : Int) - a1)) : Int).toNat).size + 1 ≤ 9223372036854775807 then (if (((t401 ++ x5_4).extract 0 ((wrap64 (((t401 ++ x5_4).size : Int) - a1)) : Int).toNat) ++ (⟨#[46]⟩ : ByteArray)).size + ((t401 ++ x5_4).extract ((wrap64 (((t401 ++ x5_4).size : Int) - a1)) : Int).toNat (t401 ++ x5_4).size).size ≤ 9223372036854775807 then (some ((((t401 ++ x5_4).extract 0 ((wrap64 (((t401 ++ x5_4).size : Int) - a1)) : Int).toNat) ++ (⟨#[46]⟩ : ByteArray)) ++ ((t401 ++ x5_4).extract ((wrap64 (((t401 ++ x5_4).size : Int) - a1)) : Int).toNat (t401 ++ x5_4).size))) else (none)) else (none)) else (none)) else (none))) else (none)) = some r := H
    have A14 := Aside0.mk A140
    clear A140
    by_cases c15 : t401.size + x5_4.size ≤ 9223372036854775807
    ·rw [if_pos c15] at H
     have c15b0 := eq_true c15
     have c15b1 : decide (t401.size + x5_4.size ≤ 9223372036854775807) = true := decide_eq_true c15
     try have c15b2 : (9223372036854775807 < t401.size + x5_4.size) = False := eq_false (Nat.not_lt.2 c15)
     by_cases c16 : a1 = 0
     ·rw [if_pos c16] at H
      have c16b0 : (a1 == 0) = true := beq_iff_eq.mpr c16
      have c16b1 : (a1 != 0) = false := bne_eq_false_iff_eq.mpr c16
      clear c16
      obtain rfl := Option.some.inj H
      go_wp2_with (first | (go_at_call 53; (with_reducible refine (environref03_repeat.calls kj4 48 (wrap64 ((wrap64 (a1 + 1)) - (x5_4.size : Int))) t401 _ A14.out).mono ?_); rintro e w17 ⟨rfl, hb⟩; replace BK396 := Aside0.mk (bb BK396 hb); replace HB := Aside0.mk (below_step (bw HB) hb); (try clear hb); (try clear hb2); (try clear hk); (try clear hi)))
      repeat (go_quiet (first | (go_at_call 53; (with_reducible refine (environref03_repeat.calls kj4 48 (wrap64 ((wrap64 (a1 + 1)) - (x5_4.size : Int))) t401 _ A14.out).mono ?_); rintro e w17 ⟨rfl, hb⟩; replace BK396 := Aside0.mk (bb BK396 hb); replace HB := Aside0.mk (below_step (bw HB) hb); (try clear hb); (try clear hb2); (try clear hk); (try clear hi))); try go_wp2_with (first | (go_at_call 53; (with_reducible refine (environref03_repeat.calls kj4 48 (wrap64 ((wrap64 (a1 + 1)) - (x5_4.size : Int))) t401 _ A14.out).mono ?_); rintro e w17 ⟨rfl, hb⟩; replace BK396 := Aside0.mk (bb BK396 hb); replace HB := Aside0.mk (below_step (bw HB) hb); (try clear hb); (try clear hb2); (try clear hk); (try clear hi))))
      go_ret
      exact ⟨by first | rfl | (simp [errW_none, errW_some] <;> rfl) | (simp [*, errW_none, errW_some] <;> rfl), bw HB⟩
     ·rw [if_neg c16] at H
      have c16b0 : (a1 == 0) = false := beq_eq_false_iff_ne.mpr c16
      have c16b1 : (a1 != 0) = true := bne_iff_ne.mpr c16
      obtain ⟨XA_, hXA_⟩ : ∃ X : ByteArray, (t401 ++ x5_4) = X := ⟨_, rfl⟩
      rw [hXA_] at H
      obtain ⟨ji18, hji18⟩ : ∃ j_ : Int, (wrap64 ((XA_.size : Int) - a1)) = j_ := ⟨_, rfl⟩
      replace H : (if 0 ≤ (ji18) then (if (ji18) ≤ (XA_.size : Int) then (if (XA_.extract 0 ((ji18) : Int).toNat).size + 1 ≤ 9223372036854775807 then (if ((XA_.extract 0 ((ji18) : Int).toNat) ++ (⟨#[46]⟩ : ByteArray)).size + (XA_.extract ((ji18) : Int).toNat XA_.size).size ≤ 9223372036854775807 then (some (((XA_.extract 0 ((ji18) : Int).toNat) ++ (⟨#[46]⟩ : ByteArray)) ++ (XA_.extract ((ji18) : Int).toNat XA_.size))) else (none)) else (none)) else (none)) else (none)) = some r := by first | (rw [hji18] at H; exact H) | (simp only [hji18] at H ⊢; exact H)
      (try rw [hji18] at A14)
      have hji18w : (IntKind.i64.wrap ((XA_.size : Int) - a1)) = ji18 := (i64_w _).trans hji18
      obtain ⟨XK_, hXK_⟩ : ∃ X : ByteArray, (XA_.extract 0 ((ji18) : Int).toNat) = X := ⟨_, rfl⟩
      obtain ⟨XR_, hXR_⟩ : ∃ X : ByteArray, (XA_.extract ((ji18) : Int).toNat XA_.size) = X := ⟨_, rfl⟩
      rw [hXR_, hXK_] at H
      by_cases c19 : 0 ≤ (ji18)
      ·rw [if_pos c19] at H
       have c19b0 := eq_true c19
       have c19b1 : decide (0 ≤ (ji18)) = true := decide_eq_true c19
       clear c19
       by_cases c20 : (ji18) ≤ (XA_.size : Int)
       ·rw [if_pos c20] at H
        have c20b0 := eq_true c20
        have c20b1 : decide ((ji18) ≤ (XA_.size : Int)) = true := decide_eq_true c20
        by_cases c21 : XK_.size + 1 ≤ 9223372036854775807
        ·rw [if_pos c21] at H
         have c21b0 := eq_true c21
         have c21b1 : decide (XK_.size + 1 ≤ 9223372036854775807) = true := decide_eq_true c21
         try have c21b2 : (9223372036854775807 < XK_.size + 1) = False := eq_false (Nat.not_lt.2 c21)
         have c22b0 := eq_true (of_decide_eq_true (by first | (with_reducible assumption) | assumption) : 0 ≤ (ji18))
         have c23b0 := eq_true (of_decide_eq_true (by first | (with_reducible assumption) | assumption) : (ji18) ≤ (XA_.size : Int))
         by_cases c24 : (XK_ ++ (⟨#[46]⟩ : ByteArray)).size + XR_.size ≤ 9223372036854775807
         ·rw [if_pos c24] at H
          have c24b0 := eq_true c24
          have c24b1 : decide ((XK_ ++ (⟨#[46]⟩ : ByteArray)).size + XR_.size ≤ 9223372036854775807) = true := decide_eq_true c24
          try have c24b2 : (9223372036854775807 < (XK_ ++ (⟨#[46]⟩ : ByteArray)).size + XR_.size) = False := eq_false (Nat.not_lt.2 c24)
          obtain rfl := Option.some.inj H
          go_wp2_with (first | (go_at_call 53; (with_reducible refine (environref03_repeat.calls kj4 48 (wrap64 ((wrap64 (a1 + 1)) - (x5_4.size : Int))) t401 _ A14.out).mono ?_); rintro e w25 ⟨rfl, hb⟩; replace BK396 := Aside0.mk (bb BK396 hb); replace HB := Aside0.mk (below_step (bw HB) hb); (try clear hb); (try clear hb2); (try clear hk); (try clear hi)))
          repeat (go_quiet (first | (go_at_call 53; (with_reducible refine (environref03_repeat.calls kj4 48 (wrap64 ((wrap64 (a1 + 1)) - (x5_4.size : Int))) t401 _ A14.out).mono ?_); rintro e w25 ⟨rfl, hb⟩; replace BK396 := Aside0.mk (bb BK396 hb); replace HB := Aside0.mk (below_step (bw HB) hb); (try clear hb); (try clear hb2); (try clear hk); (try clear hi))); try go_wp2_with (first | (go_at_call 53; (with_reducible refine (environref03_repeat.calls kj4 48 (wrap64 ((wrap64 (a1 + 1)) - (x5_4.size : Int))) t401 _ A14.out).mono ?_); rintro e w25 ⟨rfl, hb⟩; replace BK396 := Aside0.mk (bb BK396 hb); replace HB := Aside0.mk (below_step (bw HB) hb); (try clear hb); (try clear hb2); (try clear hk); (try clear hi))))
          go_ret
          exact ⟨by first | rfl | (simp [errW_none, errW_some] <;> rfl) | (simp only [← hji18]; first | rfl | (simp [errW_none, errW_some] <;> rfl)) | (simp [*, errW_none, errW_some] <;> rfl), bw HB⟩
         ·rw [if_neg c24] at H
          exact absurd H (by simp)
        ·rw [if_neg c21] at H
         exact absurd H (by simp)
       ·rw [if_neg c20] at H
        exact absurd H (by simp)
      ·rw [if_neg c19] at H
       exact absurd H (by simp)
    ·rw [if_neg c15] at H
     exact absurd H (by simp)
   ·rw [if_neg c13] at H
    have c13b0 : decide ((x5_4.size : Int) ≤ a1) = false := decide_eq_false c13
    clear c13
    by_cases c26 : a1 = 0
    ·rw [if_pos c26] at H
     have c26b0 : (a1 == 0) = true := beq_iff_eq.mpr c26
     have c26b1 : (a1 != 0) = false := bne_eq_false_iff_eq.mpr c26
     clear c26
     obtain rfl := Option.some.inj H
     go_wp2
     repeat (go_quiet (fail); try go_wp2)
     go_ret
     exact ⟨by first | rfl | (simp [errW_none, errW_some] <;> rfl) | (simp [*, errW_none, errW_some] <;> rfl), bw HB⟩
    ·rw [if_neg c26] at H
     have c26b0 : (a1 == 0) = false := beq_eq_false_iff_ne.mpr c26
     have c26b1 : (a1 != 0) = true := bne_iff_ne.mpr c26
     obtain ⟨ji27, hji27⟩ : ∃ j_ : Int, (wrap64 ((x5_4.size : Int) - a1)) = j_ := ⟨_, rfl⟩
     replace H : (if 0 ≤ (ji27) then (if (ji27) ≤ (x5_4.size : Int) then (if (x5_4.extract 0 ((ji27) : Int).toNat).size + 1 ≤ 9223372036854775807 then (if ((x5_4.extract 0 ((ji27) : Int).toNat) ++ (⟨#[46]⟩ : ByteArray)).size + (x5_4.extract ((ji27) : Int).toNat x5_4.size).size ≤ 9223372036854775807 then (some (((x5_4.extract 0 ((ji27) : Int).toNat) ++ (⟨#[46]⟩ : ByteArray)) ++ (x5_4.extract ((ji27) : Int).toNat x5_4.size))) else (none)) else (none)) else (none)) else (none)) = some r := by first | (rw [hji27] at H; exact H) | (simp only [hji27] at H ⊢; exact H)
     have hji27w : (IntKind.i64.wrap ((x5_4.size : Int) - a1)) = ji27 := (i64_w _).trans hji27
     obtain ⟨XK_, hXK_⟩ : ∃ X : ByteArray, (x5_4.extract 0 ((ji27) : Int).toNat) = X := ⟨_, rfl⟩
     obtain ⟨XR_, hXR_⟩ : ∃ X : ByteArray, (x5_4.extract ((ji27) : Int).toNat x5_4.size) = X := ⟨_, rfl⟩
     rw [hXR_, hXK_] at H
     by_cases c28 : 0 ≤ (ji27)
     ·rw [if_pos c28] at H
      have c28b0 := eq_true c28
      have c28b1 : decide (0 ≤ (ji27)) = true := decide_eq_true c28
      clear c28
      by_cases c29 : (ji27) ≤ (x5_4.size : Int)
      ·rw [if_pos c29] at H
       have c29b0 := eq_true c29
       have c29b1 : decide ((ji27) ≤ (x5_4.size : Int)) = true := decide_eq_true c29
       clear c29
       by_cases c30 : XK_.size + 1 ≤ 9223372036854775807
       ·rw [if_pos c30] at H
        have c30b0 := eq_true c30
        have c30b1 : decide (XK_.size + 1 ≤ 9223372036854775807) = true := decide_eq_true c30
        try have c30b2 : (9223372036854775807 < XK_.size + 1) = False := eq_false (Nat.not_lt.2 c30)
        have c31b0 := eq_true (of_decide_eq_true (by first | (with_reducible assumption) | assumption) : 0 ≤ (ji27))
        have c32b0 := eq_true (of_decide_eq_true (by first | (with_reducible assumption) | assumption) : (ji27) ≤ (x5_4.size : Int))
        by_cases c33 : (XK_ ++ (⟨#[46]⟩ : ByteArray)).size + XR_.size ≤ 9223372036854775807
        ·rw [if_pos c33] at H
         have c33b0 := eq_true c33
         have c33b1 : decide ((XK_ ++ (⟨#[46]⟩ : ByteArray)).size + XR_.size ≤ 9223372036854775807) = true := decide_eq_true c33
         try have c33b2 : (9223372036854775807 < (XK_ ++ (⟨#[46]⟩ : ByteArray)).size + XR_.size) = False := eq_false (Nat.not_lt.2 c33)
         obtain rfl := Option.some.inj H
         go_wp2
         repeat (go_quiet (fail); try go_wp2)
         go_ret
         exact ⟨by first | rfl | (simp [errW_none, errW_some] <;> rfl) | (simp only [← hji27]; first | rfl | (simp [errW_none, errW_some] <;> rfl)) | (simp [*, errW_none, errW_some] <;> rfl), bw HB⟩
        ·rw [if_neg c33] at H
         exact absurd H (by simp)
       ·rw [if_neg c30] at H
        exact absurd H (by simp)
      ·rw [if_neg c29] at H
       exact absurd H (by simp)
     ·rw [if_neg c28] at H
      exact absurd H (by simp)
end Go.Proofs.YtckbmniiecbalaaGreatDoor.PT
