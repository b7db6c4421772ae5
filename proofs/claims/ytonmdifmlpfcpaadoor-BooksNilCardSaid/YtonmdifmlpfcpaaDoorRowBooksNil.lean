/- A nil world has nothing, and returns ErrState, whatever is done with it: for every act the law answers true and the act reads as it did. -/
import Derived.Test.YtonmdifmlpfcpaaDoorCards
import Derived.Test.YtonmdifmlpfcpaaDoorTie
import Derived.Test.YtonmdifmlpfcpaaDoorBlaw
import Derived.WalkKit
import Derived.ProofKit
import Derived.OpenShut
import Derived.ShutString
import Derived.ChangeOld
import Derived.Below
import Derived.SizedLaws
import Derived.Lib.SmallJoins
import Derived.Deep.DeepHandedRow
import Derived.Lib.LaidTab
import Derived.Carry
namespace Go.Proofs.YtonmdifmlpfcpaaDoor.booksNil
open Go.ChangeShapes Go.WideShapes Go.ChangeAt Go.RowKit
set_option linter.unusedVariables false
set_option linter.unusedSimpArgs false
theorem own : ownKnob Tryd.prog.godebug = none := by kernel_rfl
theorem laid : laidOutB Tryd.prog = true := by kernel_rfl
theorem array8 {α : Type} {cs : Array α} (h : cs.size = 8) : ∃ c0 c1 c2 c3 c4 c5 c6 c7, cs = #[c0, c1, c2, c3, c4, c5, c6, c7] := by
  obtain ⟨l⟩ := cs
  match l, h with
  | [c0, c1, c2, c3, c4, c5, c6, c7], _ => exact ⟨c0, c1, c2, c3, c4, c5, c6, c7, rfl⟩
section
variable {H : Type} {enc : TypeId × Value → H} {W : World} {base b0 : Nat} {spare : Nat → Bool} {held : Bool}
set_option maxRecDepth 100000 in
/-- a plain number, read -/
theorem num_of {m : Nat} {c : Value} {y : DataW H × List MemPlace} (h : DataW.trod enc Tryd.prog W base spare held m 3 [c] = some y) : ∃ a : Int, c = .int .i64 a ∧ y = (.lit (.int .i64 a), []) := by
  obtain ⟨a, e, rfl, w⟩ := DataW.trod_int Tryd.underlying3 h
  simp at e
  exact ⟨a, e, rfl⟩
set_option maxRecDepth 100000 in
/-- three numbers in an array -/
theorem three_of {m : Nat} {c0 c1 c2 : Value} {y : DataW H × List MemPlace} (h : DataW.trod enc Tryd.prog W base spare held m 29 [c0, c1, c2] = some y) : ∃ a b c : Int, c0 = .int .i64 a ∧ c1 = .int .i64 b ∧ c2 = .int .i64 c ∧ y.2 = [] := by
  obtain ⟨xs, n, _, rfl, _, hlen, hi⟩ := DataW.trod_array Tryd.underlying29 h
  have k3 : Tryd.prog.cellsOf 3 = 1 := by kernel_rfl
  match xs, hlen with
  | [y0, y1, y2], _ =>
    have h0 := hi 0 (by decide); have h1 := hi 1 (by decide); have h2 := hi 2 (by decide)
    rw [k3] at h0 h1 h2
    obtain ⟨a, ea, rfl⟩ := num_of (show DataW.trod enc Tryd.prog W base spare held n 3 [c0] = some y0 from h0)
    obtain ⟨b, eb, rfl⟩ := num_of (show DataW.trod enc Tryd.prog W base spare held n 3 [c1] = some y1 from h1)
    obtain ⟨c, ec, rfl⟩ := num_of (show DataW.trod enc Tryd.prog W base spare held n 3 [c2] = some y2 from h2)
    exact ⟨a, b, c, ea, eb, ec, rfl⟩
set_option maxRecDepth 100000 in
/-- an act, read -/
theorem open_act {v : Value} {d : DataW H} {p : List MemPlace} (hv : Value.okWide Tryd.prog W .any b0 31 v) (h : DataW.Trod enc Tryd.prog W base spare held 31 v d p) :
    ∃ (k f n a b c : Int) (s : Bool) (t : ByteArray), v = .agg #[.int .i64 k, .int .i64 f, .int .i64 n, .bool s, .int .i64 a, .int .i64 b, .int .i64 c, .string t] ∧ p = [] := by
  have k31 : Tryd.prog.cellsOf 31 = 8 := by kernel_rfl
  have k3 : Tryd.prog.cellsOf 3 = 1 := by kernel_rfl
  have k4 : Tryd.prog.cellsOf 4 = 1 := by kernel_rfl
  have k9 : Tryd.prog.cellsOf 9 = 1 := by kernel_rfl
  have k29 : Tryd.prog.cellsOf 29 = 3 := by kernel_rfl
  obtain ⟨cs, rfl, hsz⟩ := okWide_struct Tryd.underlying31 hv
  obtain ⟨c0, c1, c2, c3, c4, c5, c6, c7, rfl⟩ := array8 (hsz.trans k31)
  obtain ⟨m, hf⟩ := h
  obtain ⟨xs, n, _, hx, _, hlen, hi⟩ := DataW.trod_struct Tryd.underlying31 (show DataW.trod enc Tryd.prog W base spare held m 31 [c0, c1, c2, c3, c4, c5, c6, c7] = some (d, p) from hf)
  match xs, hlen with
  | [y0, y1, y2, y3, y4, y5], _ =>
    have h0 : DataW.trod enc Tryd.prog W base spare held n 3 (([c0, c1, c2, c3, c4, c5, c6, c7].drop 0).take (Tryd.prog.cellsOf 3)) = some y0 := hi 0 _ rfl
    rw [k3] at h0
    have h1 : DataW.trod enc Tryd.prog W base spare held n 3 (([c0, c1, c2, c3, c4, c5, c6, c7].drop 1).take (Tryd.prog.cellsOf 3)) = some y1 := hi 1 _ rfl
    rw [k3] at h1
    have h2 : DataW.trod enc Tryd.prog W base spare held n 3 (([c0, c1, c2, c3, c4, c5, c6, c7].drop 2).take (Tryd.prog.cellsOf 3)) = some y2 := hi 2 _ rfl
    rw [k3] at h2
    have h3 : DataW.trod enc Tryd.prog W base spare held n 4 (([c0, c1, c2, c3, c4, c5, c6, c7].drop 3).take (Tryd.prog.cellsOf 4)) = some y3 := hi 3 _ rfl
    rw [k4] at h3
    have h4 : DataW.trod enc Tryd.prog W base spare held n 29 (([c0, c1, c2, c3, c4, c5, c6, c7].drop 4).take (Tryd.prog.cellsOf 29)) = some y4 := hi 4 _ rfl
    rw [k29] at h4
    have h5 : DataW.trod enc Tryd.prog W base spare held n 9 (([c0, c1, c2, c3, c4, c5, c6, c7].drop 7).take (Tryd.prog.cellsOf 9)) = some y5 := hi 5 _ rfl
    rw [k9] at h5
    obtain ⟨k, rfl, rfl⟩ := num_of (show DataW.trod enc Tryd.prog W base spare held n 3 [c0] = some y0 from h0)
    obtain ⟨f, rfl, rfl⟩ := num_of (show DataW.trod enc Tryd.prog W base spare held n 3 [c1] = some y1 from h1)
    obtain ⟨q, rfl, rfl⟩ := num_of (show DataW.trod enc Tryd.prog W base spare held n 3 [c2] = some y2 from h2)
    obtain ⟨s, es, rfl⟩ := DataW.trod_bool Tryd.underlying4 (show DataW.trod enc Tryd.prog W base spare held n 4 [c3] = some y3 from h3)
    obtain ⟨a, b, c, rfl, rfl, rfl, e4⟩ := three_of (show DataW.trod enc Tryd.prog W base spare held n 29 [c4, c5, c6] = some y4 from h4)
    obtain ⟨t, et, rfl, _⟩ := DataW.trod_string Tryd.underlying9 (show DataW.trod enc Tryd.prog W base spare held n 9 [c7] = some y5 from h5)
    obtain rfl : c3 = .bool s := List.head_eq_of_cons_eq es
    obtain rfl : c7 = .string t := List.head_eq_of_cons_eq et
    simp only [Prod.mk.injEq, List.flatMap_cons, List.flatMap_nil, e4, List.append_nil] at hx
    exact ⟨k, f, q, a, b, c, s, t, rfl, hx.2⟩
end
/-- a block's cells, laid anew -/
def laidB (cs : Array Value) : Obj → Obj
  | .cells _ t frozen => .cells cs t frozen
  | o => o
def tab2 : Array Value := #[.int .u8 128, .int .u8 191, .int .u8 160, .int .u8 191, .int .u8 128, .int .u8 159, .int .u8 144, .int .u8 191, .int .u8 128, .int .u8 143, .int .u8 0, .int .u8 0, .int .u8 0, .int .u8 0, .int .u8 0, .int .u8 0, .int .u8 0, .int .u8 0, .int .u8 0, .int .u8 0, .int .u8 0, .int .u8 0, .int .u8 0, .int .u8 0, .int .u8 0, .int .u8 0, .int .u8 0, .int .u8 0, .int .u8 0, .int .u8 0, .int .u8 0, .int .u8 0]
def tab1 : Array Value := (Go.Pinned.utf8FirstZ.map fun (z : Nat) => Value.int .u8 (z : Int)).toArray
noncomputable def laidWorld (os : Os) : World :=
  { World.holding Tryd.prog os ⟨#[], #[], []⟩ with heap := ((World.holding Tryd.prog os ⟨#[], #[], []⟩).heap.modify 2 (laidB tab2)).modify 1 (laidB tab1) }
set_option maxRecDepth 100000 in
theorem laid_met (os : Os) : laidMet Tryd.prog Rows.booksNilRow.laid ((laidWorld os).forCall (fun _ _ => 0) ⟨#[], #[.agg #[.int .i64 0, .int .i64 0, .int .i64 0, .bool false, .int .i64 0, .int .i64 0, .int .i64 0, .string ByteArray.empty]], []⟩).memory :=
  laidMet_of_run' 8 (by kernel_rfl) (by kernel_rfl)
set_option maxRecDepth 100000 in
theorem reads (os : Os) {H : Type} (enc : TypeId × Value → H) : ∃ places, DataW.whole enc Tryd.prog ((laidWorld os).forCall (fun _ _ => 0) ⟨#[], #[.agg #[.int .i64 0, .int .i64 0, .int .i64 0, .bool false, .int .i64 0, .int .i64 0, .int .i64 0, .string ByteArray.empty]], []⟩).memory Tryd.f4.params.toList Rows.booksNilSpec.vars false (#[.agg #[.int .i64 0, .int .i64 0, .int .i64 0, .bool false, .int .i64 0, .int .i64 0, .int .i64 0, .string ByteArray.empty]] : Array Value).toList 8 = some ([.agg [.lit (.int .i64 0), .lit (.int .i64 0), .lit (.int .i64 0), .lit (.bool false), .agg [.lit (.int .i64 0), .lit (.int .i64 0), .lit (.int .i64 0)], .lit (.string [])]], [], places) :=
  ⟨[], by kernel_rfl⟩
set_option maxRecDepth 100000 in
theorem contract (H : Type) (enc : TypeId × Value → H) (W : World) (base : Nat) (args : Array Value) (ds gs : List (DataW H)) (before : List MemPlace)
    (hval : ∀ (j : Nat) t v, Tryd.f4.params[j]? = some t → args[j]? = some v → Value.okWide Tryd.prog W .any base t v)
    (hW : DataW.Whole enc Tryd.prog Tryd.f4.params.toList Rows.booksNilSpec.vars false W args.toList ds gs before) :
    Calls Tryd.prog 4 args W fun e W' => ∃ v, e = .returned v ∧ Rows.booksNilSpec.post enc Tryd.prog Tryd.f4 false true false false W args v W' := by
  have hW' := hW
  obtain ⟨p, q, hA0, hV, rfl, hfz, hnd⟩ := hW
  have hA : DataW.TrodAll enc Tryd.prog W 0 (fun _ => true) true Tryd.f4.params.toList args.toList ds p := hA0
  rw [Tryd.params4] at hA hval
  obtain ⟨v0, vs0, d0, ds0, p0, q0, hargs, rfl, rfl, h0, r0⟩ := trodAll_cons hA
  obtain ⟨rfl, rfl, rfl⟩ := trodAll_nil r0
  obtain rfl : args = #[v0] := by cases args; simp_all
  obtain ⟨rfl, rfl⟩ := trodVars_none hV
  obtain ⟨k, f, n, a, b, c, s, t, rfl, rfl⟩ := open_act (hval 0 31 v0 rfl rfl) h0
  clear hA0
  refine (PB.books_nil_law k f n a b c s t W).mono fun e W' ⟨he, bel⟩ => ?_
  subst he
  exact ⟨_, rfl, _, _, _, [], _, [], hW', trodAll_mk1 (shut_bool Tryd.underlying4 _), (trodAll_cons_mk (Below.trod laid (by kernel_rfl) (of_decide_eq_true (by kernel_rfl)) h0 bel (fun _ h => by cases h)) trodAll_mk0), rfl, bel.frame _, fun h => by cases h⟩
set_option maxRecDepth 100000 in
theorem lifted (os : Os) (started : os.Started) (H : Type) (enc : TypeId × Value → H) (F : Stop.Interp) :
    ReturnsInHanded {} Tryd.checked os 4 .any ((OpenSpec.ofChange Rows.booksNilSpec).preRow enc Tryd.prog Tryd.f4 Rows.booksNilRow.domain false Rows.booksNilRow.laid) (((OpenSpec.ofChange Rows.booksNilSpec).at F).post enc Tryd.prog Tryd.f4 false true false false) := by
  obtain ⟨places, hx⟩ := reads os enc
  refine returnsInHanded_of_row (C := Tryd.checked) (s := OpenSpec.ofChange Rows.booksNilSpec) own started (by kernel_rfl) Tryd.func4
    (witness_row_at (enc := enc) (C := Tryd.checked) false (laidWorld os) #[.agg #[.int .i64 0, .int .i64 0, .int .i64 0, .bool false, .int .i64 0, .int .i64 0, .int .i64 0, .string ByteArray.empty]] rfl (by kernel_rfl) (by kernel_rfl) (by kernel_rfl)
      (OpenSpec.preRow_of_cond 8 hx (by kernel_rfl) (fun k hk => by cases hk) (by kernel_rfl) (laid_met os))) ?_
  intro W base args ds gs before hval hW _ _ _ hL _ _
  exact contract H enc W base args ds gs before hval hW
theorem said : Rows.BooksNilSaid :=
  OpenClaim.holds_of_cond 4 Tryd.f4 rfl rfl rfl rfl rfl rfl rfl ⟨rfl, rfl, rfl, rfl, rfl⟩ rfl rfl rfl rfl rfl (by kernel_rfl) Tryd.func4 (by kernel_rfl)
    (of_decide_eq_true (by kernel_rfl)) (by unfold Func.isWrapper; first | (rw [if_pos (by decide +kernel)]; kernel_rfl) | (rw [if_neg (by decide +kernel)]; exact ⟨rfl, rfl⟩))
    (fun os started H enc _ F => by rw [OpenClaim.pre_eq_preRow]; exact lifted os started H enc F)
/-- No parameter wants a stand-in; the program's own looks are off. -/
theorem plain (f : FuncId) (fn : Func) (hf : Tryd.pinned.checked.prog.funcNamed "environ/environlaw24.BooksNil" = some f) (hfn : Tryd.pinned.checked.prog.funcs[f]? = some fn) :
    false = Tryd.pinned.checked.prog.looks [] ∧ ∀ (j : Nat) t, fn.params[j]? = some t → Tryd.pinned.checked.prog.wantsStandIn t = false := by
  obtain rfl : f = 4 := Option.some.inj ((show Tryd.prog.funcNamed "environ/environlaw24.BooksNil" = some 4 by kernel_rfl).symm.trans hf) |>.symm
  obtain rfl : fn = Tryd.f4 := (Option.some.inj (Tryd.func4.symm.trans hfn)).symm
  refine ⟨by kernel_rfl, fun j t ht => ?_⟩
  rw [Tryd.params4] at ht
  have hm := Array.mem_of_getElem? ht
  have ho : t = 31 := by simpa using hm
  rcases ho with rfl
  exact (show Tryd.prog.wantsStandIn 31 = false by kernel_rfl)
theorem card : Rows.BooksNilCardSaid :=
  Claim7.holds_tied_plain_at .later [] _ _ _ _ said (fun _ h => by cases h) (by kernel_rfl) (fun _ h => by cases h) booksNil_row_tie rfl ⟨rfl, rfl⟩ (by kernel_rfl) rfl plain (by kernel_rfl)
end Go.Proofs.YtonmdifmlpfcpaaDoor.booksNil
namespace Go.Proofs.YtonmdifmlpfcpaaDoor
/-- The tied card, under a short name, for the claim. -/
theorem booksNil_holds : Rows.BooksNilCardSaid := booksNil.card
end Go.Proofs.YtonmdifmlpfcpaaDoor
