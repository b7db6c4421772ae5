-- written by a program of this session out of the kit's print (its words and its form)
import Derived.Test.YtckbmniiecbalaaGreatDoorPTsq
import Derived.Test.YtckbmniiecbalaaGreatDoorPTx0
namespace Go.Proofs.YtckbmniiecbalaaGreatDoor.PT
open Go.RowKit Go.Proofs.YtckbmniiecbalaaGreatDoorW.PrintWords Go.Proofs.YtckbmniiecbalaaGreatDoorW.PrintLast Go.Proofs.YtckbmniiecbalaaGreatDoorW.PrintMore
attribute [local go_sem] max2_int min2_int max_two min_two max_three min_three max_four min_four   -- for this text's walks alone
set_option linter.unusedVariables false
set_option linter.unusedSimpArgs false

/-! ### strings_HasPrefix: function 35 -/
def strings_HasPrefix.f (a0 : ByteArray) (a1 : ByteArray) : Option (Bool) := some (Lib.hasPrefix a0.data.toList a1.data.toList)
theorem strings_HasPrefix.calls (a0 : ByteArray) (a1 : ByteArray) (r : Bool) (w : World) (h : strings_HasPrefix.f a0 a1 = some r) :
  Calls Tryz.prog 35 #[.string a0, .string a1] w fun e w' => e = .returned (.bool r) ∧ Drawn0 w w' := by
 unfold strings_HasPrefix.f at h
 cases h
 exact (Go.Proofs.Tryz.strings_HasPrefix a0 a1 w).mono fun e w' ⟨he, hw⟩ => ⟨he, hw ▸ Drawn0.refl _⟩

/-! ### strings_Repeat: function 36 -/
def strings_Repeat.f (a0 : ByteArray) (a1 : Int) : Option (ByteArray) := if 0 ≤ a1 ∧ a1 ≤ 9223372036854775807 ∧ a0.size * a1.toNat ≤ 140737488355328 then some ⟨(Lib.repeatL a0.data.toList a1.toNat).toArray⟩ else none
theorem strings_Repeat.calls (a0 : ByteArray) (a1 : Int) (r : ByteArray) (w : World) (h : strings_Repeat.f a0 a1 = some r) :
  Calls Tryz.prog 36 #[.string a0, .int .i64 a1] w fun e w' => e = .returned (.string r) ∧ Below w.heap.size w w' := by
 unfold strings_Repeat.f at h
 by_cases hc : 0 ≤ a1 ∧ a1 ≤ 9223372036854775807 ∧ a0.size * a1.toNat ≤ 140737488355328
 ·rw [if_pos hc] at h; cases h
  have hx := Go.Proofs.Tryz.strings_Repeat a0 a1.toNat w (by omega) hc.2.2
  rw [show ((a1.toNat : Nat) : Int) = a1 by omega] at hx
  exact hx
 ·rw [if_neg hc] at h; cases h

/-! ### w_env: function 0: words -/
/-- the table that strconv reads -/
def Env (w : World) : Prop := Lib.TabIs Tryz.prog w "internal/strconv.uint64pow10" .u64 Lib.pow10Tab
theorem env_at {w w' : World} (h : Env w) (hb : Below w.heap.size w w') : Env w' := by
 unfold Env Lib.TabIs World.var? at *
 obtain ⟨g, hg, h⟩ := Option.bind_eq_some_iff.mp h
 rw [hg, Option.bind_some]
 cases ho : w.heap[g]? with
 | none => rw [ho] at h; cases h
 | some o => rw [blk_below ho hb]; rw [ho] at h; exact h

/-! ### strconv_FormatInt_72: function 72 -/
def strconv_FormatInt_72.f (a0 : Int) (a1 : Int) : Option (ByteArray) := if -9223372036854775808 ≤ a0 ∧ a0 ≤ 9223372036854775807 ∧ a1 = 10 then some ⟨(Lib.itoa a0).toArray⟩ else none
theorem strconv_FormatInt_72.calls (a0 : Int) (a1 : Int) (r : ByteArray) (w : World) (hE : Env w) (h : strconv_FormatInt_72.f a0 a1 = some r) :
  Calls Tryz.prog 72 #[.int .i64 a0, .int .i64 a1] w fun e w' => e = .returned (.string r) ∧ Below w.heap.size w w' := by
 unfold strconv_FormatInt_72.f at h
 by_cases hc : -9223372036854775808 ≤ a0 ∧ a0 ≤ 9223372036854775807 ∧ a1 = 10
 ·rw [if_pos hc] at h; cases h
  obtain ⟨h0, h1, rfl⟩ := hc
  refine (Go.Proofs.Tryz.strconv_FormatInt_10 a0 h0 h1 w hE).mono ?_
  rintro e w' ⟨he, k, os, hw⟩
  exact ⟨he, by rw [hw]; exact ⟨rfl, rfl, rfl, by show w.heap.size ≤ (w.heap ++ os).size; rw [Array.size_append]; omega, fun j hj => by show (w.heap ++ os)[j]? = _; exact Array.getElem?_append_left hj⟩⟩
 ·rw [if_neg hc] at h; cases h

/-! ### strings_TrimPrefix: function 76 -/
def strings_TrimPrefix.f (a0 : ByteArray) (a1 : ByteArray) : Option (ByteArray) := some ⟨(Lib.trimPrefix a0.data.toList a1.data.toList).toArray⟩
theorem strings_TrimPrefix.calls (a0 : ByteArray) (a1 : ByteArray) (r : ByteArray) (w : World) (h : strings_TrimPrefix.f a0 a1 = some r) :
  Calls Tryz.prog 76 #[.string a0, .string a1] w fun e w' => e = .returned (.string r) ∧ Drawn0 w w' := by
 unfold strings_TrimPrefix.f at h
 cases h
 exact (Go.Proofs.Tryz.strings_TrimPrefix a0 a1 w).mono fun e w' ⟨he, hw⟩ => ⟨he, hw ▸ Drawn0.refl _⟩

/-! ### strings_IndexByte: function 97 -/
def strings_IndexByte.f (a0 : ByteArray) (a1 : Int) : Option (Int) := some (Lib.indexByte a0.data.toList a1.toNat.toUInt8)
theorem strings_IndexByte.calls (a0 : ByteArray) (a1 : Int) (r : Int) (w : World) (h : strings_IndexByte.f a0 a1 = some r) :
  Calls Tryz.prog 97 #[.string a0, .int .u8 a1] w fun e w' => e = .returned (.int .i64 r) ∧ Drawn0 w w' := by
 unfold strings_IndexByte.f at h
 cases h
 exact (Go.Proofs.Tryz.strings_IndexByte a0 a1 w).mono fun e w' ⟨he, hw⟩ => ⟨he, hw ▸ Drawn0.refl _⟩

-- NOT PRINTED: function 118 (bytealg_IndexString)

/-! ### w_ascii: function 0: words -/
/-- a text of ASCII letters, shorter than 256 -/
def asciiB (s : ByteArray) : Bool := s.data.toList.all (fun b => decide (b.toNat < 128)) && decide (s.size < 256)
theorem asciiB_is {s : ByteArray} (h : asciiB s = true) : (∀ (j : Nat) (b : UInt8), s.data.toList[j]? = some b → b.toNat < 128) ∧ s.size < 4294967281 := by
 unfold asciiB at h
 rw [Bool.and_eq_true, List.all_eq_true, decide_eq_true_eq] at h
 exact ⟨fun j b hb => of_decide_eq_true (h.1 b (List.mem_of_getElem? hb)), by omega⟩

-- the shelf tells of its caller

/-! ### strings_TrimLeft: function 84 -/
def strings_TrimLeft.f (a0 : ByteArray) (a1 : ByteArray) : Option (ByteArray) := if asciiB a1 = true ∧ a0.size ≤ 9223372036854775807 then some ⟨(Lib.trimLeftS a0.data.toList a1.data.toList).toArray⟩ else none
theorem strings_TrimLeft.calls (a0 : ByteArray) (a1 : ByteArray) (r : ByteArray) (w : World) (h : strings_TrimLeft.f a0 a1 = some r) :
  Calls Tryz.prog 84 #[.string a0, .string a1] w fun e w' => e = .returned (.string r) ∧ Below w.heap.size w w' := by
 unfold strings_TrimLeft.f at h
 by_cases hc : asciiB a1 = true ∧ a0.size ≤ 9223372036854775807
 ·rw [if_pos hc] at h; cases h
  exact Go.Proofs.Any.strings_TrimLeft_laid Go.Proofs.Tryz.lays161 (by kernel_rfl) a0 a1 w (asciiB_is hc.1).2 (asciiB_is hc.1).1
 ·rw [if_neg hc] at h; cases h

-- written by this session: bytes of the call's own, written from the end on

/-! ### texts_more: function 85 -/
/-- 1 is added to digits, the last one first -/
def moreR : List UInt8 → List UInt8
 | [] => [49]
 | c :: r => if c.toNat < 57 then (c + 1) :: r else 48 :: moreR r
def moreS (l : List UInt8) : List UInt8 := (moreR l.reverse).reverse
theorem moreS_nil : moreS [] = [49] := rfl
theorem moreS_snoc (l : List UInt8) (c : UInt8) : moreS (l ++ [c]) = if c.toNat < 57 then l ++ [c + 1] else moreS l ++ [48] := by
 unfold moreS
 rw [List.reverse_append, List.reverse_singleton, List.singleton_append, moreR]
 split
 ·rw [List.reverse_cons, List.reverse_reverse]
 ·rw [List.reverse_cons]
def texts_more.f (a0 : ByteArray) : Option ByteArray := if a0.size ≤ 140737488351232 then some ⟨(moreS a0.data.toList).toArray⟩ else none
def ByteBuf (w wr : World) (B : Nat) (l : List UInt8) : Prop := ∃ cs N, wr.heap[B]? = some (.cells cs 5 (N, N + 1)) ∧ l.length ≤ N ∧ (∀ j (hj : j < l.length), cs[j]? = some (.int .u8 (l[j].toNat : Int))) ∧ Below w.heap.size w wr ∧ w.heap.size ≤ B
theorem put_any {w : World} {g N M : Nat} {t : TypeId} {cs : Array Value} (h : w.heap[g]? = some (.cells cs t (N, M))) (i : Nat) (u : Value) : (w.setCell ⟨g, i, none⟩ u).heap[g]? = some (.cells (cs.setIfInBounds i u) t (N, M)) := by
 obtain ⟨hlt, hk⟩ := Array.getElem?_eq_some_iff.1 h
 show (w.heap.modify g _)[g]? = _
 rw [Array.getElem?_eq_getElem (by rw [Array.size_modify]; exact hlt), Array.getElem_modify_self, hk]
 rfl
theorem ByteBuf.cell {w wr : World} {B : Nat} {l : List UInt8} (h : ByteBuf w wr B l) {j : Nat} (hj : j < l.length) : wr.cell? ⟨B, j, none⟩ = some (.int .u8 (l[j].toNat : Int)) ∧ wr.frozen? ⟨B, j, none⟩ = false := by
 obtain ⟨cs, N, h1, h2, h3, _⟩ := h
 refine ⟨(cell_of_row wr B j cs 5 (N, N + 1) h1).trans (h3 j hj), ?_⟩
 simp [World.frozen?, h1]; omega
theorem ByteBuf.set {w wr : World} {B : Nat} {l : List UInt8} (h : ByteBuf w wr B l) {m : Nat} (hm : m < l.length) (u : UInt8) : ByteBuf w (wr.setCell ⟨B, m, none⟩ (.int .u8 (u.toNat : Int))) B (l.set m u) := by
 obtain ⟨cs, N, h1, h2, h3, h4, h5⟩ := h
 refine ⟨_, N, put_any h1 m _, by rw [List.length_set]; exact h2, fun j hj => ?_, below_set h4 h5, h5⟩
 rw [List.length_set] at hj
 have hs := h3 m hm
 have hms : m < cs.size := (Array.getElem?_eq_some_iff.1 hs).1
 rw [Array.getElem?_setIfInBounds, List.getElem_set]
 by_cases he : m = j
 ·subst he; rw [if_pos rfl, if_pos rfl, if_pos hms]
 ·rw [if_neg he, if_neg he]; exact h3 j hj
theorem bytesBuf (w : World) (s : ByteArray) : ByteBuf w (Lib.bytesWorld w 5 s) w.heap.size s.data.toList := by
 refine ⟨_, _, Lib.bytesWorld_at_new w 5 s, ?_, fun j hj => ?_, ⟨rfl, rfl, rfl, by rw [Lib.bytesWorld_size]; omega, fun k hk => Lib.bytesWorld_at_old w 5 s k hk⟩, Nat.le_refl _⟩
 ·unfold Lib.bytesCells; simp
 ·have hj2 : j < s.size := by simpa using hj
  have h1 := Lib.bytesWorld_cell w 5 s j hj2
  rw [cell_of_row _ _ j _ _ _ (Lib.bytesWorld_at_new w 5 s), List.getD_eq_getElem?_getD, List.getElem?_eq_getElem hj] at h1
  exact h1
theorem ByteBuf.string {w wr : World} {B cap : Nat} {l : List UInt8} (h : ByteBuf w wr B l) : (convert 74 9 (.slice (some ⟨B, 0, none⟩) l.length cap)).run Tryz.prog wr = .ok (.string ⟨l.toArray⟩) wr :=
 run_convert_bytes_back (P := Tryz.prog) wr 74 9 5 ⟨B, 0, none⟩ cap l Tryz.underlying74 Tryz.underlying5 Tryz.underlying9 (fun j hj => by
  have e : Addr.add ⟨B, 0, none⟩ j = ⟨B, j, none⟩ := by
   unfold Addr.add; split
   ·rename_i h0; subst h0; rfl
   ·simp
  rw [e]; exact (h.cell hj).1)
set_option maxHeartbeats 2000000 in
set_option maxRecDepth 100000 in
theorem more_walk (s r : ByteArray) (w : World) (hs : s.size ≤ 140737488351232) (hr : r = ⟨(moreS s.data.toList).toArray⟩) :
  Calls Tryz.prog 85 #[.string s] w fun e w' => e = .returned (.string r) ∧ Below w.heap.size w w' := by
 have hconv := Lib.run_convert_string_bytes (P := Tryz.prog) w 9 74 5 s Tryz.underlying9 Tryz.underlying74 Tryz.underlying5
 have HB0 := Aside0.mk (bytesBuf w s)
 have hlen : s.data.toList.length = s.size := by simp
 have HL := Aside0.mk hlen
 have HR := Aside0.mk hr
 clear hlen hr
 generalize hl : s.data.toList = l at *
 have HLL := Aside0.mk hl
 clear hl
 generalize hW : Lib.bytesWorld w 5 s = W at *
 have HW := Aside0.mk hW
 clear hW
 go_enter Tryz.func85, Tryz.ntmps85
 go_wp2
 go_loopw [4] (fun i wr => ∃ (k : Nat) (m : List UInt8), k ≤ s.size ∧ i = .int .i64 ((k : Int) - 1) ∧ m = l.take k ++ List.replicate (s.size - k) 48 ∧ m.length = s.size ∧ moreS l = moreS (l.take k) ++ List.replicate (s.size - k) 48 ∧ ByteBuf w wr w.heap.size m) (fun i _ => ((intOf i) + 1).toNat)
 case atStart =>
  refine ⟨s.size, l, Nat.le_refl _, rfl, ?_, HL.out, ?_, HB0.out⟩
  ·rw [List.take_of_length_le (by rw [HL.out]; exact Nat.le_refl _), Nat.sub_self, List.replicate_zero, List.append_nil]
  ·rw [List.take_of_length_le (by rw [HL.out]; exact Nat.le_refl _), Nat.sub_self, List.replicate_zero, List.append_nil]
 case round =>
  obtain ⟨k, m, hk, rfl, hm, hml, hmo, hbuf⟩ := hrel
  have HM := Aside0.mk hm; have HML := Aside0.mk hml; have HMO := Aside0.mk hmo; have HBU := Aside0.mk hbuf
  clear hm hml hmo hbuf
  by_cases h0 : k = 0
  ·subst h0
   have hst := HBU.out.string (cap := grownCap w s.size 0 5)
   rw [HML.out] at hst
   have hfin : (⟨#[49]⟩ : ByteArray) ++ ⟨m.toArray⟩ = r := by
    rw [HR.out, HMO.out, HM.out, List.take_zero, moreS_nil]
    apply ByteArray.ext
    rw [ByteArray.data_append]
    simp
   have HF := Aside0.mk hfin
   clear hfin
   have hb := HBU.out
   have HBE : Aside0 (Below w.heap.size w wr) := ⟨by obtain ⟨_, _, _, _, _, h, _⟩ := hb; exact h⟩
   clear hb
   have hzs : (⟨m.toArray⟩ : ByteArray).size ≤ 140737488351232 := by show m.toArray.size ≤ _; rw [List.size_toArray, HML.out]; exact hs
   generalize (⟨m.toArray⟩ : ByteArray) = z at *
   have hn1 : (9223372036854775807 < (⟨#[49]⟩ : ByteArray).size + z.size) = False := eq_false (by have h1 : (⟨#[49]⟩ : ByteArray).size = 1 := rfl; omega)
   have hn2 : (9223372036854775807 < 1 + z.size) = False := eq_false (by omega)
   rw [show ((0 : Nat) : Int) - 1 = -1 from rfl]
   go_wp2
   go_ret
   exact ⟨by rw [← HF.out]; rfl, HBE.out⟩
  ·obtain ⟨q, rfl⟩ : ∃ q, k = q + 1 := ⟨k - 1, by omega⟩
   rw [show ((q + 1 : Nat) : Int) - 1 = (q : Int) by omega]
   have hq : q < m.length := by rw [HML.out]; omega
   have hql : q < l.length := by rw [HL.out]; omega
   obtain ⟨hc, hf⟩ := HBU.out.cell hq
   have hmq : m[q] = l[q] := by
    have : m[q]? = l[q]? := by rw [HM.out, List.getElem?_append_left (by rw [List.length_take]; omega), List.getElem?_take_of_lt (by omega)]
    rw [List.getElem?_eq_getElem hq, List.getElem?_eq_getElem hql] at this
    exact Option.some.inj this
   rw [hmq] at hc
   have htk : l.take (q + 1) = l.take q ++ [l[q]] := List.take_succ_eq_append_getElem hql
   have HTK := Aside0.mk htk
   have hset : ∀ x, m.set q x = l.take q ++ [x] ++ List.replicate (s.size - (q + 1)) 48 := fun x => by
    rw [HM.out, htk]
    have hlq : (l.take q).length = q := by rw [List.length_take]; omega
    rw [List.append_assoc, List.set_append_right (h := by omega), hlq, Nat.sub_self]; simp
   have HSET := Aside0.mk hset
   have HQ := Aside0.mk hq
   clear hset htk hmq
   generalize hcc : l[q] = c at *
   have HCC := Aside0.mk hcc
   clear hcc
   have hcb := c.toNat_lt
   by_cases h57 : c.toNat < 57
   ·have hb := HBU.out.set HQ.out (c + 1)
    have hst := hb.string (cap := grownCap w s.size 0 5)
    rw [List.length_set, HML.out, show (((c + 1).toNat : Nat) : Int) = (c.toNat : Int) + 1 by rw [UInt8.toNat_add]; simp; omega] at hst
    rw [show (((c + 1).toNat : Nat) : Int) = (c.toNat : Int) + 1 by rw [UInt8.toNat_add]; simp; omega] at hb
    have HBE : Aside0 (Below w.heap.size w (wr.setCell ⟨w.heap.size, q, none⟩ (.int .u8 ((c.toNat : Int) + 1)))) := ⟨by obtain ⟨_, _, _, _, _, h, _⟩ := hb; exact h⟩
    have HF : Aside0 (r = ⟨(m.set q (c + 1)).toArray⟩) := ⟨by rw [HR.out, HMO.out, HTK.out, moreS_snoc, if_pos h57, HSET.out]⟩
    have hd : decide ((c.toNat : Int) < 57) = true := decide_eq_true (by omega)
    clear hb
    go_wp2
    go_ret
    exact ⟨by rw [HF.out]; rfl, HBE.out⟩
   ·have hb := HBU.out.set HQ.out 48
    have HB2 : Aside0 (ByteBuf w (wr.setCell ⟨w.heap.size, q, none⟩ (.int .u8 48)) w.heap.size (m.set q 48)) := ⟨hb⟩
    have hd : decide ((c.toNat : Int) < 57) = false := decide_eq_false (by omega)
    clear hb
    go_wp2
    go_roundw
    case rel =>
     have e48 : List.replicate (s.size - q) (48 : UInt8) = 48 :: List.replicate (s.size - (q + 1)) 48 := by rw [show s.size - q = (s.size - (q + 1)) + 1 by omega, List.replicate_succ]
     refine ⟨q, m.set q 48, by omega, rfl, ?_, by rw [List.length_set]; exact HML.out, ?_, HB2.out⟩
     ·rw [HSET.out, e48]; simp
     ·rw [HMO.out, HTK.out, moreS_snoc, if_neg h57, e48]; simp
    case measure => first | (simp [intOf]; done) | (simp [intOf]; omega)
theorem texts_more.calls (a0 : ByteArray) (r : ByteArray) (w : World) (h : texts_more.f a0 = some r) :
  Calls Tryz.prog 85 #[.string a0] w fun e w' => e = .returned (.string r) ∧ Below w.heap.size w w' := by
 unfold texts_more.f at h
 by_cases hc : a0.size ≤ 140737488351232
 ·rw [if_pos hc] at h; cases h
  exact more_walk a0 _ w hc rfl
 ·rw [if_neg hc] at h; cases h

-- NOT PRINTED: function 86 (stringslite_Index)

-- NOT PRINTED: function 38 (strings_Index)

-- the shelf tells of its caller
/-! ### strings_Contains: function 11 -/
def strings_Contains.f (a0 : ByteArray) (a1 : ByteArray) : Option (Bool) := if a1.size = 1 then some (decide (0 ≤ Lib.indexByte a0.data.toList (a1.data.toList.headD 0))) else none
theorem strings_Contains.calls (a0 : ByteArray) (a1 : ByteArray) (r : Bool) (w : World) (h : strings_Contains.f a0 a1 = some r) :
  Calls Tryz.prog 11 #[.string a0, .string a1] w fun e w' => e = .returned (.bool r) ∧ Drawn0 w w' := by
 unfold strings_Contains.f at h
 by_cases hc : a1.size = 1
 ·rw [if_pos hc] at h; cases h
  obtain ⟨⟨l⟩⟩ := a1
  match l, hc with
  | [c], _ => exact (Go.Proofs.Tryz.strings_Contains_one a0 c w).mono fun e w' ⟨he, hw⟩ => ⟨he, hw ▸ Drawn0.refl _⟩
 ·rw [if_neg hc] at h; cases h

-- written by this session: a loop over []byte(s)
/-! ### texts_number: function 98 -/
/-- the number that digits are -/
def dval (l : List UInt8) : Nat := l.foldl (fun n c => 10 * n + (c.toNat - 48)) 0
def allDig (l : List UInt8) : Bool := l.all fun c => decide (48 ≤ c.toNat ∧ c.toNat ≤ 57)
theorem dval_snoc (l : List UInt8) (c : UInt8) : dval (l ++ [c]) = 10 * dval l + (c.toNat - 48) := by unfold dval; rw [List.foldl_append]; rfl
theorem dval_mono (l r : List UInt8) : dval l ≤ dval (l ++ r) := by
 induction r generalizing l with
 | nil => rw [List.append_nil]; exact Nat.le_refl _
 | cons c r ih =>
  have h1 := ih (l ++ [c])
  rw [List.append_assoc] at h1
  have h2 : dval l ≤ dval (l ++ [c]) := by rw [dval_snoc]; omega
  exact Nat.le_trans h2 h1
def texts_number.f (a0 : ByteArray) (a1 : Int) (a2 : Int) : Option (Int × Bool) :=
 if allDig a0.data.toList = true ∧ a1 = 10 ∧ 9 ≤ a2 ∧ a2 ≤ 4611686018427387904 ∧ a0.size ≤ 140737488351232 then (if (dval a0.data.toList : Int) ≤ a2 then some ((dval a0.data.toList : Int), true) else some (0, false)) else none
theorem ib_digit {c : UInt8} (h0 : 48 ≤ c.toNat) (h1 : c.toNat ≤ 57) (w : World) : Calls Tryz.prog 97 #[.string ⟨#[48, 49, 50, 51, 52, 53, 54, 55, 56, 57, 97, 98, 99, 100, 101, 102]⟩, .int .u8 (c.toNat : Int)] w fun e w' => e = .returned (.int .i64 (((c.toNat - 48 : Nat)) : Int)) ∧ w = w' := by
 refine (Go.Proofs.Tryz.strings_IndexByte ⟨#[48, 49, 50, 51, 52, 53, 54, 55, 56, 57, 97, 98, 99, 100, 101, 102]⟩ (c.toNat : Int) w).mono ?_
 rintro e w' ⟨rfl, rfl⟩
 refine ⟨?_, rfl⟩
 have hk : ∀ n : Fin 10, Lib.indexByte [48, 49, 50, 51, 52, 53, 54, 55, 56, 57, 97, 98, 99, 100, 101, 102] (48 + n.val : Nat).toUInt8 = (n.val : Int) := by decide
 have := hk ⟨c.toNat - 48, by omega⟩
 rw [Int.toNat_natCast]
 rw [show 48 + (c.toNat - 48) = c.toNat by omega] at this
 exact congrArg (fun z => Ending.returned (.int .i64 z)) this
set_option maxHeartbeats 1000000 in
set_option maxRecDepth 100000 in
theorem number_walk (s : ByteArray) (most r1 : Int) (r2 : Bool) (w : World) (hd : allDig s.data.toList = true) (h9 : 9 ≤ most) (hm : most ≤ 4611686018427387904) (hs : s.size ≤ 140737488351232) (hyes : (dval s.data.toList : Int) ≤ most → r1 = (dval s.data.toList : Int) ∧ r2 = true) (hno : most < (dval s.data.toList : Int) → r1 = 0 ∧ r2 = false) :
  Calls Tryz.prog 98 #[.string s, .int .i64 10, .int .i64 most] w fun e w' => e = .returned (.tuple #[.int .i64 r1, .bool r2]) ∧ Below w.heap.size w w' := by
 have hconv := Lib.run_convert_string_bytes (P := Tryz.prog) w 9 74 5 s Tryz.underlying9 Tryz.underlying74 Tryz.underlying5
 have HC : Aside0 (∀ j, j < s.size → (Lib.bytesWorld w 5 s).cell? ⟨w.heap.size, j, none⟩ = some (.int .u8 (s.data.toList.getD j 0).toNat)) := ⟨fun j hj => Lib.bytesWorld_cell w 5 s j hj⟩
 have HB : Aside0 (Below w.heap.size w (Lib.bytesWorld w 5 s)) := ⟨⟨rfl, rfl, rfl, by rw [Lib.bytesWorld_size]; omega, fun k hk => Lib.bytesWorld_at_old w 5 s k hk⟩⟩
 have hlen : s.data.toList.length = s.size := by simp
 have HL := Aside0.mk hlen
 have HD := Aside0.mk hd
 have HY := Aside0.mk hyes
 have HN0 := Aside0.mk hno
 clear hlen hd hyes hno
 generalize hW : Lib.bytesWorld w 5 s = W at *
 have HW := Aside0.mk hW
 clear hW
 go_enter Tryz.func98, Tryz.ntmps98
 go_wp2
 go_loop [8, 15] (fun n i => ∃ k : Nat, k ≤ s.size ∧ i = .int .i64 k ∧ n = .int .i64 (dval (s.data.toList.take k)) ∧ (dval (s.data.toList.take k) : Int) ≤ most) (fun _ i => s.size - (intOf i).toNat)
 case atStart => exact ⟨0, Nat.zero_le _, rfl, rfl, by unfold dval; simp; omega⟩
 case round =>
  obtain ⟨k, hk, rfl, rfl, hle⟩ := hrel
  by_cases hlt : k < s.size
  ·have hc := HC.out k hlt
   have hdg : 48 ≤ (s.data.toList.getD k 0).toNat ∧ (s.data.toList.getD k 0).toNat ≤ 57 := by
    have h1 := List.all_eq_true.1 HD.out (s.data.toList.getD k 0) (by rw [List.getD_eq_getElem?_getD, List.getElem?_eq_getElem (by rw [HL.out]; exact hlt)]; exact List.getElem_mem _)
    exact of_decide_eq_true h1
   have hsn : dval (s.data.toList.take (k + 1)) = 10 * dval (s.data.toList.take k) + ((s.data.toList.getD k 0).toNat - 48) := by
    rw [List.take_succ_eq_append_getElem (by rw [HL.out]; exact hlt), dval_snoc, List.getD_eq_getElem?_getD, List.getElem?_eq_getElem (by rw [HL.out]; exact hlt)]; rfl
   have hmn := dval_mono (s.data.toList.take (k + 1)) (s.data.toList.drop (k + 1))
   rw [List.take_append_drop] at hmn
   have HSN := Aside0.mk hsn
   clear hsn
   generalize s.data.toList.getD k 0 = c at *
   obtain ⟨hd0, hd1⟩ := hdg
   generalize hn : dval (s.data.toList.take k) = n at *
   have HN := Aside0.mk hn
   clear hn
   by_cases hbig : most < 10 * (n : Int) + ((c.toNat - 48 : Nat) : Int)
   ·have hq : (most - ((c.toNat - 48 : Nat) : Int)) / 10 < (n : Int) := by omega
    obtain ⟨rfl, rfl⟩ := HN0.out (by rw [HSN.out] at hmn; omega)
    clear hmn
    have hqd : decide ((most - ((c.toNat - 48 : Nat) : Int)) / 10 < (n : Int)) = true := decide_eq_true hq
    go_wp2_with (go_at_call 97; refine (ib_digit hd0 hd1 _).mono ?_; rintro e w' ⟨rfl, rfl⟩)
    go_ret2
    exact ⟨rfl, HB.out⟩
   ·have hq : ¬ (most - ((c.toNat - 48 : Nat) : Int)) / 10 < (n : Int) := by omega
    have hqd : decide ((most - ((c.toNat - 48 : Nat) : Int)) / 10 < (n : Int)) = false := decide_eq_false hq
    clear hmn
    go_wp2_with (go_at_call 97; refine (ib_digit hd0 hd1 _).mono ?_; rintro e w' ⟨rfl, rfl⟩)
    go_round
    case rel => exact ⟨k + 1, by omega, by go_num, by rw [HSN.out]; go_num, by rw [HSN.out]; omega⟩
    case measure => simp [intOf]; omega
  ·obtain rfl : k = s.size := by omega
   have ht : s.data.toList.take s.size = s.data.toList := List.take_of_length_le (by rw [HL.out]; exact Nat.le_refl _)
   rw [ht] at hle ⊢
   obtain ⟨rfl, rfl⟩ := HY.out hle
   clear ht
   go_wp2
   go_ret2
   exact ⟨rfl, HB.out⟩
theorem texts_number.calls (a0 : ByteArray) (a1 : Int) (a2 : Int) (r1 : Int) (r2 : Bool) (w : World) (h : texts_number.f a0 a1 a2 = some (r1, r2)) :
  Calls Tryz.prog 98 #[.string a0, .int .i64 a1, .int .i64 a2] w fun e w' => e = .returned (.tuple #[.int .i64 r1, .bool r2]) ∧ Below w.heap.size w w' := by
 unfold texts_number.f at h
 by_cases hc : allDig a0.data.toList = true ∧ a1 = 10 ∧ 9 ≤ a2 ∧ a2 ≤ 4611686018427387904 ∧ a0.size ≤ 140737488351232
 ·rw [if_pos hc] at h
  obtain ⟨h1, rfl, h2, h3, h4⟩ := hc
  refine number_walk a0 a2 r1 r2 w h1 h2 h3 h4 (fun hl => ?_) (fun hl => ?_)
  ·rw [if_pos hl] at h; cases h; exact ⟨rfl, rfl⟩
  ·rw [if_neg (by omega)] at h; cases h; exact ⟨rfl, rfl⟩
 ·rw [if_neg hc] at h; cases h

-- NOT PRINTED: function 153 (bytealg_abigen_runtime_cmpstring)

-- NOT PRINTED: function 133 (bytealg_CompareString)

-- the shelf tells of its caller

/-! ### strings_Compare: function 107 -/
def strings_Compare.f (a0 : ByteArray) (a1 : ByteArray) : Option (Int) := some (Lib.compareBytes a0.data.toList a1.data.toList)
theorem strings_Compare.calls (a0 : ByteArray) (a1 : ByteArray) (r : Int) (w : World) (h : strings_Compare.f a0 a1 = some r) :
  Calls Tryz.prog 107 #[.string a0, .string a1] w fun e w' => e = .returned (.int .i64 r) ∧ Drawn0 w w' := by
 unfold strings_Compare.f at h
 cases h
 exact (Go.Proofs.Tryz.strings_Compare a0 a1 w).mono fun e w' ⟨he, hw⟩ => ⟨he, hw ▸ Drawn0.refl _⟩

/-! ### strings_TrimRight: function 108 -/
def strings_TrimRight.f (a0 : ByteArray) (a1 : ByteArray) : Option (ByteArray) := if asciiB a1 = true ∧ a0.size ≤ 9223372036854775807 then some ⟨(Lib.trimRightS a0.data.toList a1.data.toList).toArray⟩ else none
theorem strings_TrimRight.calls (a0 : ByteArray) (a1 : ByteArray) (r : ByteArray) (w : World) (h : strings_TrimRight.f a0 a1 = some r) :
  Calls Tryz.prog 108 #[.string a0, .string a1] w fun e w' => e = .returned (.string r) ∧ Below w.heap.size w w' := by
 unfold strings_TrimRight.f at h
 by_cases hc : asciiB a1 = true ∧ a0.size ≤ 9223372036854775807
 ·rw [if_pos hc] at h; cases h
  exact Go.Proofs.Any.strings_TrimRight_laid Go.Proofs.Tryz.lays162 (by kernel_rfl) a0 a1 w hc.2 (asciiB_is hc.1).2 (asciiB_is hc.1).1
 ·rw [if_neg hc] at h; cases h
end Go.Proofs.YtckbmniiecbalaaGreatDoor.PT
