-- written by a program of this session: printed functions (their form), contracts walked by hand
import Derived.Test.YtamkjpjibkabaaaPRgA
import Derived.Test.YtamkjpjibkabaaaPRgB
import Derived.Test.YtamkjpjibkabaaaPRgD
import Derived.Test.YtamkjpjibkabaaaPRgE
import Derived.Test.YtamkjpjibkabaaaPRgHa
import Derived.Test.YtamkjpjibkabaaaPRsq
import Derived.Test.YtamkjpjibkabaaaPRx0
import Derived.Test.YtamkjpjibkabaaaPRx1
namespace Go.Proofs.Ytamkjpjibkabaaa.PR
open Go.RowKit Go.Proofs.YtamkjpjibkabaaaW.PrintWords Go.Proofs.YtamkjpjibkabaaaW.PrintLast Go.Proofs.YtamkjpjibkabaaaW.PrintMore
set_option linter.unusedVariables false
set_option linter.unusedSimpArgs false
/-! ### reals_Mul: function 25 -/
def reals_Mul.f (k : Nat) (a0 : Int) (a1 : Int) (a2_0 : Int) (a2_1 : Int) (a3_0 : Int) (a3_1 : Int) : Option (Int × Int × Int) := (reals_check.f k a0 a1 (([(⟨a2_0, a2_1⟩ : S29), (⟨a3_0, a3_1⟩ : S29)] : List (S29)))).bind fun bt411 => (if bt411.2 = 0 then ((reals_magnitude.f a2_0).bind fun bt413 => ((reals_magnitude.f a3_0).bind fun bt415 => ((reals_wide_times.f bt413.1 bt413.2 bt415.2).bind fun bt417 => ((reals_exact_round.f k ((decide (a2_0 < 0)) != (decide (a3_0 < 0))) bt417.1 bt417.2 (wrap64 (a2_1 + a3_1)) false bt411.1 a1).bind fun bt419 => (some (bt419.1, bt419.2.1, bt419.2.2)))))) else (some (0, 0, bt411.2)))
theorem reals_Mul.mono : ∀ a0 a1 a2 a3 a4 a5 k, LeO (reals_Mul.f k a0 a1 a2 a3 a4 a5) (reals_Mul.f (k + 1) a0 a1 a2 a3 a4 a5) := by
 intro a0 a1 a2 a3 a4 a5 k
 unfold reals_Mul.f
 repeat' first
   | (with_reducible exact reals_check.mono _ _ _ _)
   | (with_reducible exact reals_exact_round.mono _ _ _ _ _ _ _ _)
   | (with_reducible exact LeO.refl _)
   | (with_reducible exact LeO.none _)
   | (with_reducible refine LeO.ite ?_ ?_)
   | (with_reducible refine LeO.bind ?_ (fun _ => ?_))
   | exact reals_check.mono _ _ _ _
   | exact reals_exact_round.mono _ _ _ _ _ _ _ _
   | exact LeO.none _
   | refine LeO.ite ?_ ?_
   | refine LeO.bind ?_ (fun _ => ?_)
/-! ### reals_Add: function 21 -/
def reals_Add.j0 : Nat → Int → Int → Int → Int → Int → Int → Option (Int × Int × Int)
 | 0, _, _, _, _, _, _ => none
 | k + 1, x1, x10, x167000, x167001, x168000, x168001 => (reals_of.f x167000 x167001).bind fun bt174 => ((reals_of.f x168000 x168001).bind fun bt179 => ((reals_sum.f bt174.1 bt174.2.1 bt174.2.2.1 bt174.2.2.2.1 bt174.2.2.2.2 bt179.1 bt179.2.1 bt179.2.2.1 bt179.2.2.2.1 bt179.2.2.2.2).bind fun bt184 => ((reals_exact_round.f k bt184.1 bt184.2.1 bt184.2.2.1 bt184.2.2.2.1 bt184.2.2.2.2 x10 x1).bind fun bt189 => (some (bt189.1, bt189.2.1, bt189.2.2)))))
def reals_Add.f (k : Nat) (a0 : Int) (a1 : Int) (a2_0 : Int) (a2_1 : Int) (a3_0 : Int) (a3_1 : Int) : Option (Int × Int × Int) := (reals_check.f k a0 a1 (([(⟨a2_0, a2_1⟩ : S29), (⟨a3_0, a3_1⟩ : S29)] : List (S29)))).bind fun bt172 => (if bt172.2 = 0 then (if a2_0 = 0 then (some (a3_0, a3_1, 0)) else (if a3_0 = 0 then (some (a2_0, a2_1, 0)) else (if a2_1 < a3_1 then (reals_Add.j0 k a1 bt172.1 a3_0 a3_1 a2_0 a2_1) else (reals_Add.j0 k a1 bt172.1 a2_0 a2_1 a3_0 a3_1)))) else (some (0, 0, bt172.2)))
theorem reals_Add.mono_l : ∀ k, (∀ y0 y1 y2 y3 y4 y5, LeO (reals_Add.j0 k y0 y1 y2 y3 y4 y5) (reals_Add.j0 (k + 1) y0 y1 y2 y3 y4 y5))
 | 0 => fun _ _ _ _ _ _ r h => by simp [reals_Add.j0] at h
 | k + 1 => by
  have ih0 := reals_Add.mono_l k
  ·intro y0 y1 y2 y3 y4 y5
   unfold reals_Add.j0
   repeat' first
   | (with_reducible exact ih0 _ _ _ _ _ _)
   | (with_reducible exact reals_check.mono _ _ _ _)
   | (with_reducible exact reals_exact_round.mono _ _ _ _ _ _ _ _)
   | (with_reducible exact LeO.refl _)
   | (with_reducible exact LeO.none _)
   | (with_reducible refine LeO.ite ?_ ?_)
   | (with_reducible refine LeO.bind ?_ (fun _ => ?_))
   | exact ih0 _ _ _ _ _ _
   | exact reals_check.mono _ _ _ _
   | exact reals_exact_round.mono _ _ _ _ _ _ _ _
   | exact LeO.none _
   | refine LeO.ite ?_ ?_
   | refine LeO.bind ?_ (fun _ => ?_)
theorem reals_Add.mono : ∀ a0 a1 a2 a3 a4 a5 k, LeO (reals_Add.f k a0 a1 a2 a3 a4 a5) (reals_Add.f (k + 1) a0 a1 a2 a3 a4 a5) := by
 intro a0 a1 a2 a3 a4 a5 k
 have ih0 := reals_Add.mono_l k
 unfold reals_Add.f
 repeat' first
   | (with_reducible exact ih0 _ _ _ _ _ _)
   | (with_reducible exact reals_check.mono _ _ _ _)
   | (with_reducible exact reals_exact_round.mono _ _ _ _ _ _ _ _)
   | (with_reducible exact LeO.refl _)
   | (with_reducible exact LeO.none _)
   | (with_reducible refine LeO.ite ?_ ?_)
   | (with_reducible refine LeO.bind ?_ (fun _ => ?_))
   | exact ih0 _ _ _ _ _ _
   | exact reals_check.mono _ _ _ _
   | exact reals_exact_round.mono _ _ _ _ _ _ _ _
   | exact LeO.none _
   | refine LeO.ite ?_ ?_
   | refine LeO.bind ?_ (fun _ => ?_)
/-! ### reals_Div: function 27 -/
def reals_Div.f (k : Nat) (a0 : Int) (a1 : Int) (a2_0 : Int) (a2_1 : Int) (a3_0 : Int) (a3_1 : Int) : Option (Int × Int × Int) := (reals_check.f k a0 a1 (([(⟨a2_0, a2_1⟩ : S29), (⟨a3_0, a3_1⟩ : S29)] : List (S29)))).bind fun bt198 => (if bt198.2 = 0 then (if a3_0 = 0 then (some (0, 0, 11)) else ((reals_magnitude.f a2_0).bind fun bt200 => ((reals_wide_digits.f bt200.1 bt200.2).bind fun t203 => ((reals_wide_scaled.f k bt200.1 bt200.2 (wrap64 (38 - t203))).bind fun bt204 => ((reals_magnitude.f a3_0).bind fun bt206 => ((reals_wide_over.f k bt204.1 bt204.2 bt206.2).bind fun bt208 => ((reals_exact_round.f k ((decide (a2_0 < 0)) != (decide (a3_0 < 0))) bt208.1 bt208.2.1 (wrap64 ((wrap64 (a2_1 - (wrap64 (38 - t203)))) - a3_1)) (bt208.2.2 != 0) bt198.1 a1).bind fun bt212 => (some (bt212.1, bt212.2.1, bt212.2.2))))))))) else (some (0, 0, bt198.2)))
theorem reals_Div.mono : ∀ a0 a1 a2 a3 a4 a5 k, LeO (reals_Div.f k a0 a1 a2 a3 a4 a5) (reals_Div.f (k + 1) a0 a1 a2 a3 a4 a5) := by
 intro a0 a1 a2 a3 a4 a5 k
 unfold reals_Div.f
 repeat' first
   | (with_reducible exact reals_check.mono _ _ _ _)
   | (with_reducible exact reals_exact_round.mono _ _ _ _ _ _ _ _)
   | (with_reducible exact reals_wide_over.mono _ _ _ _)
   | (with_reducible exact reals_wide_scaled.mono _ _ _ _)
   | (with_reducible exact LeO.refl _)
   | (with_reducible exact LeO.none _)
   | (with_reducible refine LeO.ite ?_ ?_)
   | (with_reducible refine LeO.bind ?_ (fun _ => ?_))
   | exact reals_check.mono _ _ _ _
   | exact reals_exact_round.mono _ _ _ _ _ _ _ _
   | exact reals_wide_over.mono _ _ _ _
   | exact reals_wide_scaled.mono _ _ _ _
   | exact LeO.none _
   | refine LeO.ite ?_ ?_
   | refine LeO.bind ?_ (fun _ => ?_)
/-! ### reals_Sqrt: function 29 -/
def reals_Sqrt.j0 : Nat → Int → Int → Int → Int → Int → Int → Int → Option (Int × Int × Int)
 | 0, _, _, _, _, _, _, _ => none
 | k + 1, x1, x8, x11, x223000, x223001, x232000, x232001 => (reals_wide_scaled.f k x232000 x232001 x11).bind fun bt233 => ((reals_wide_root.f k bt233.1 bt233.2).bind fun t235 => ((reals_square.f t235).bind fun bt236 => ((reals_exact_round.f k false 0 t235 (wrap64 (Int.tdiv (wrap64 (x223001 - x11)) 2)) (!(bt236.1 == bt233.1) || (!(bt236.2 == bt233.2))) x8 x1).bind fun bt238 => (some (bt238.1, bt238.2.1, bt238.2.2)))))
def reals_Sqrt.f (k : Nat) (a0 : Int) (a1 : Int) (a2_0 : Int) (a2_1 : Int) : Option (Int × Int × Int) := (reals_check.f k a0 a1 (([(⟨a2_0, a2_1⟩ : S29)] : List (S29)))).bind fun bt227 => (if bt227.2 = 0 then (if a2_0 < 0 then (some (0, 0, 11)) else ((reals_magnitude.f a2_0).bind fun bt229 => ((reals_wide_digits.f bt229.1 bt229.2).bind fun t232 => (if (Int.tmod (wrap64 (a2_1 - (wrap64 (38 - t232)))) 2) = 0 then (reals_Sqrt.j0 k a1 bt227.1 (wrap64 (38 - t232)) a2_0 a2_1 bt229.1 bt229.2) else (reals_Sqrt.j0 k a1 bt227.1 (wrap64 ((wrap64 (38 - t232)) - 1)) a2_0 a2_1 bt229.1 bt229.2))))) else (some (0, 0, bt227.2)))
theorem reals_Sqrt.mono_l : ∀ k, (∀ y0 y1 y2 y3 y4 y5 y6, LeO (reals_Sqrt.j0 k y0 y1 y2 y3 y4 y5 y6) (reals_Sqrt.j0 (k + 1) y0 y1 y2 y3 y4 y5 y6))
 | 0 => fun _ _ _ _ _ _ _ r h => by simp [reals_Sqrt.j0] at h
 | k + 1 => by
  have ih0 := reals_Sqrt.mono_l k
  ·intro y0 y1 y2 y3 y4 y5 y6
   unfold reals_Sqrt.j0
   repeat' first
   | (with_reducible exact ih0 _ _ _ _ _ _ _)
   | (with_reducible exact reals_check.mono _ _ _ _)
   | (with_reducible exact reals_exact_round.mono _ _ _ _ _ _ _ _)
   | (with_reducible exact reals_wide_root.mono _ _ _)
   | (with_reducible exact reals_wide_scaled.mono _ _ _ _)
   | (with_reducible exact LeO.refl _)
   | (with_reducible exact LeO.none _)
   | (with_reducible refine LeO.ite ?_ ?_)
   | (with_reducible refine LeO.bind ?_ (fun _ => ?_))
   | exact ih0 _ _ _ _ _ _ _
   | exact reals_check.mono _ _ _ _
   | exact reals_exact_round.mono _ _ _ _ _ _ _ _
   | exact reals_wide_root.mono _ _ _
   | exact reals_wide_scaled.mono _ _ _ _
   | exact LeO.none _
   | refine LeO.ite ?_ ?_
   | refine LeO.bind ?_ (fun _ => ?_)
theorem reals_Sqrt.mono : ∀ a0 a1 a2 a3 k, LeO (reals_Sqrt.f k a0 a1 a2 a3) (reals_Sqrt.f (k + 1) a0 a1 a2 a3) := by
 intro a0 a1 a2 a3 k
 have ih0 := reals_Sqrt.mono_l k
 unfold reals_Sqrt.f
 repeat' first
   | (with_reducible exact ih0 _ _ _ _ _ _ _)
   | (with_reducible exact reals_check.mono _ _ _ _)
   | (with_reducible exact reals_exact_round.mono _ _ _ _ _ _ _ _)
   | (with_reducible exact reals_wide_root.mono _ _ _)
   | (with_reducible exact reals_wide_scaled.mono _ _ _ _)
   | (with_reducible exact LeO.refl _)
   | (with_reducible exact LeO.none _)
   | (with_reducible refine LeO.ite ?_ ?_)
   | (with_reducible refine LeO.bind ?_ (fun _ => ?_))
   | exact ih0 _ _ _ _ _ _ _
   | exact reals_check.mono _ _ _ _
   | exact reals_exact_round.mono _ _ _ _ _ _ _ _
   | exact reals_wide_root.mono _ _ _
   | exact reals_wide_scaled.mono _ _ _ _
   | exact LeO.none _
   | refine LeO.ite ?_ ?_
   | refine LeO.bind ?_ (fun _ => ?_)
/-! boxes that a law's walk carries along -/
structure Bxs (w wx : World) (bs : List (Nat × Array Value × TypeId)) : Prop where
  h : ∀ p ∈ bs, wx.heap[p.1]? = some (.cells p.2.1 p.2.2 (0, 0))
  b : Below w.heap.size w wx
theorem Bxs.next {w wx w2 : World} {bs : List (Nat × Array Value × TypeId)} (h : Bxs w wx bs) (hb : Below wx.heap.size wx w2) : Bxs w w2 bs := ⟨fun p hp => blk_below (h.h p hp) hb, below_step h.b hb⟩
theorem Bxs.drew {w wx : World} {bs : List (Nat × Array Value × TypeId)} (h : Bxs w wx bs) : Bxs w wx.drew bs := ⟨fun p hp => blk_drew (h.h p hp), below_drew1 h.b⟩
theorem Bxs.drewN {w wx : World} {bs : List (Nat × Array Value × TypeId)} (h : Bxs w wx bs) (n : Nat) : Bxs w (wx.drewN n) bs := ⟨fun p hp => blk_drewN (h.h p hp) n, pw_below_drewN h.b n⟩
theorem Bxs.alloc {w wx : World} {bs : List (Nat × Array Value × TypeId)} (h : Bxs w wx bs) (o : Obj) : Bxs w (wx.alloc o) bs := ⟨fun p hp => blk_alloc (h.h p hp) _, below_alloc h.b _⟩
theorem Bxs.push {w wx : World} {bs : List (Nat × Array Value × TypeId)} (h : Bxs w wx bs) (cs : Array Value) (t : TypeId) : Bxs w (wx.alloc (.cells cs t)) ((wx.heap.size, cs, t) :: bs) := by
  refine ⟨fun p hp => ?_, below_alloc h.b _⟩
  rcases List.mem_cons.1 hp with rfl | hp
  · exact blk_new _ _
  · exact blk_alloc (h.h p hp) _
theorem Bxs.get {w wx : World} {g : Nat} {cs : Array Value} {t : TypeId} {bs : List (Nat × Array Value × TypeId)} (h : Bxs w wx ((g, cs, t) :: bs)) : wx.heap[g]? = some (.cells cs t (0, 0)) := h.h _ (List.mem_cons_self ..)
theorem Bxs.tail {w wx : World} {p : Nat × Array Value × TypeId} {bs : List (Nat × Array Value × TypeId)} (h : Bxs w wx (p :: bs)) : Bxs w wx bs := ⟨fun q hq => h.h q (List.mem_cons_of_mem _ hq), h.b⟩
theorem bxs_nil (w : World) : Bxs w w [] := ⟨fun _ h => (List.not_mem_nil h).elim, Below.refl _ _⟩
theorem c2 {w : World} {g : Nat} {a b : Value} {t : TypeId} (h : w.heap[g]? = some (.cells #[a, b] t (0, 0))) : w.cell? ⟨g, 0, none⟩ = some a ∧ w.cell? ⟨g, 1, none⟩ = some b := ⟨(blk_cell h 0).trans rfl, (blk_cell h 1).trans rfl⟩
theorem Bxs.perm {w wx : World} {l l' : List (Nat × Array Value × TypeId)} (h : Bxs w wx l) (hs : ∀ p ∈ l', p ∈ l) : Bxs w wx l' := ⟨fun p hp => h.h p (hs p hp), h.b⟩
theorem Bxs.swap {w wx : World} {p q : Nat × Array Value × TypeId} {l : List (Nat × Array Value × TypeId)} (h : Bxs w wx (p :: q :: l)) : Bxs w wx (q :: p :: l) := by
  refine ⟨fun r hr => h.h r ?_, h.b⟩
  rcases List.mem_cons.1 hr with rfl | hr
  · exact List.mem_cons_of_mem _ (List.mem_cons_self ..)
  · rcases List.mem_cons.1 hr with rfl | hr
    · exact List.mem_cons_self ..
    · exact List.mem_cons_of_mem _ (List.mem_cons_of_mem _ hr)
theorem Bxs.put2 {w wx : World} {g : Nat} {a b a' b' : Value} {t : TypeId} {l : List (Nat × Array Value × TypeId)} (h : Bxs w wx ((g, #[a, b], t) :: l)) (hl : ∀ p ∈ l, p.1 ≠ g) (hg : w.heap.size ≤ g) : Bxs w ((wx.setCell ⟨g, 0, none⟩ a').setCell ⟨g, 1, none⟩ b') ((g, #[a', b'], t) :: l) := by
  refine ⟨fun p hp => ?_, below_set (below_set h.b hg) hg⟩
  rcases List.mem_cons.1 hp with rfl | hp
  · exact blk_put (blk_put h.get 0 _ rfl) 1 _ rfl
  · exact blk_far (blk_far (h.tail.h p hp) (hl p hp) _) (hl p hp) _
theorem f2 {w : World} {g : Nat} {a b : Value} {t : TypeId} (h : w.heap[g]? = some (.cells #[a, b] t (0, 0))) : w.frozen? ⟨g, 0, none⟩ = false ∧ w.frozen? ⟨g, 1, none⟩ = false := ⟨blk_frozen h 0, blk_frozen h 1⟩
theorem c6 {w : World} {g : Nat} {a b c d e f : Value} {t : TypeId} (h : w.heap[g]? = some (.cells #[a, b, c, d, e, f] t (0, 0))) : w.cell? ⟨g, 0, none⟩ = some a ∧ w.cell? ⟨g, 1, none⟩ = some b ∧ w.cell? ⟨g, 2, none⟩ = some c ∧ w.cell? ⟨g, 3, none⟩ = some d ∧ w.cell? ⟨g, 4, none⟩ = some e ∧ w.cell? ⟨g, 5, none⟩ = some f :=
  ⟨(blk_cell h 0).trans rfl, (blk_cell h 1).trans rfl, (blk_cell h 2).trans rfl, (blk_cell h 3).trans rfl, (blk_cell h 4).trans rfl, (blk_cell h 5).trans rfl⟩
/-! operations of the program, walked by hand -/
/-- two reals in a row of the call's own, read -/
theorem row2 {w : World} {g : Nat} {m e n f : Int} (h : w.heap[g]? = some (.cells #[.int .i64 m, .int .i64 e, .int .i64 n, .int .i64 f] 29 (0, 0))) : Kd.C k29 w (some ⟨g, 0, none⟩) 2 [(⟨m, e⟩ : S29), (⟨n, f⟩ : S29)] := by
  refine ⟨rfl, by decide, fun _ => ⟨_, rfl, fun j p hp => ?_⟩⟩
  have c0 := (blk_cell h 0).trans rfl; have c1 := (blk_cell h 1).trans rfl; have c2 := (blk_cell h 2).trans rfl; have c3 := (blk_cell h 3).trans rfl
  match j, hp with
  | 0, hp => simp at hp; subst hp; refine ⟨_, rfl, k29_mk w _, fun i u hu => ?_⟩; match i, hu with | 0, hu => simp at hu; subst hu; exact c0 | 1, hu => simp at hu; subst hu; exact c1
  | 1, hp => simp at hp; subst hp; refine ⟨_, rfl, k29_mk w _, fun i u hu => ?_⟩; match i, hu with | 0, hu => simp at hu; subst hu; exact c2 | 1, hu => simp at hu; subst hu; exact c3
theorem row1 {w : World} {g : Nat} {m e : Int} (h : w.heap[g]? = some (.cells #[.int .i64 m, .int .i64 e] 29 (0, 0))) : Kd.C k29 w (some ⟨g, 0, none⟩) 1 [(⟨m, e⟩ : S29)] := by
  refine ⟨rfl, by decide, fun _ => ⟨_, rfl, fun j p hp => ?_⟩⟩
  have c0 := (blk_cell h 0).trans rfl; have c1 := (blk_cell h 1).trans rfl
  match j, hp with
  | 0, hp => simp at hp; subst hp; refine ⟨_, rfl, k29_mk w _, fun i u hu => ?_⟩; match i, hu with | 0, hu => simp at hu; subst hu; exact c0 | 1, hu => simp at hu; subst hu; exact c1
/-- the boxes at the head of a two-place operation, when it calls check -/
theorem op_new (w : World) (m e n f : Int) : Bxs w ((((w.alloc (.cells #[.int .i64 m, .int .i64 e] 29)).alloc (.cells #[.int .i64 n, .int .i64 f] 29)).alloc (.cells #[.int .i64 0, .int .i64 0] 29)).alloc (.cells #[.int .i64 m, .int .i64 e, .int .i64 n, .int .i64 f] 29)) [(w.heap.size + 1 + 1 + 1, #[.int .i64 m, .int .i64 e, .int .i64 n, .int .i64 f], 29), (w.heap.size + 1 + 1, #[.int .i64 0, .int .i64 0], 29), (w.heap.size, #[.int .i64 m, .int .i64 e], 29), (w.heap.size + 1, #[.int .i64 n, .int .i64 f], 29)] := by
  have h := ((((((bxs_nil w).push #[.int .i64 m, .int .i64 e] 29).push #[.int .i64 n, .int .i64 f] 29).swap).push #[.int .i64 0, .int .i64 0] 29).push #[.int .i64 m, .int .i64 e, .int .i64 n, .int .i64 f] 29)
  simpa using h
theorem op_s {w w' : World} {m e n f : Int} (h : Bxs w w' [(w.heap.size + 1 + 1, #[.int .i64 0, .int .i64 0], 29), (w.heap.size, #[.int .i64 m, .int .i64 e], 29), (w.heap.size + 1, #[.int .i64 n, .int .i64 f], 29)]) : (w'.cell? ⟨w.heap.size, 0, none⟩ = some (.int .i64 m) ∧ w'.cell? ⟨w.heap.size, 1, none⟩ = some (.int .i64 e) ∧ w'.cell? ⟨w.heap.size + 1, 0, none⟩ = some (.int .i64 n) ∧ w'.cell? ⟨w.heap.size + 1, 1, none⟩ = some (.int .i64 f) ∧ w'.cell? ⟨w.heap.size + 1 + 1, 0, none⟩ = some (.int .i64 0) ∧ w'.cell? ⟨w.heap.size + 1 + 1, 1, none⟩ = some (.int .i64 0) ∧ w'.frozen? ⟨w.heap.size + 1 + 1, 0, none⟩ = false ∧ w'.frozen? ⟨w.heap.size + 1 + 1, 1, none⟩ = false) ∧ Aside0 (Bxs w w' [(w.heap.size + 1 + 1, #[.int .i64 0, .int .i64 0], 29), (w.heap.size, #[.int .i64 m, .int .i64 e], 29), (w.heap.size + 1, #[.int .i64 n, .int .i64 f], 29)]) := by
  obtain ⟨a, b⟩ := c2 h.tail.get; obtain ⟨c, d⟩ := c2 h.tail.tail.get; obtain ⟨i, j⟩ := c2 h.get; obtain ⟨k, l⟩ := f2 h.get
  exact ⟨⟨a, b, c, d, i, j, k, l⟩, ⟨h⟩⟩
theorem op_t {w w' : World} {m e n f : Int} (h : Bxs w w' [(w.heap.size, #[.int .i64 m, .int .i64 e], 29), (w.heap.size + 1, #[.int .i64 n, .int .i64 f], 29)]) : (w'.cell? ⟨w.heap.size, 0, none⟩ = some (.int .i64 m) ∧ w'.cell? ⟨w.heap.size, 1, none⟩ = some (.int .i64 e) ∧ w'.cell? ⟨w.heap.size + 1, 0, none⟩ = some (.int .i64 n) ∧ w'.cell? ⟨w.heap.size + 1, 1, none⟩ = some (.int .i64 f)) ∧ Aside0 (Bxs w w' [(w.heap.size, #[.int .i64 m, .int .i64 e], 29), (w.heap.size + 1, #[.int .i64 n, .int .i64 f], 29)]) := by
  obtain ⟨a, b⟩ := c2 h.get; obtain ⟨c, d⟩ := c2 h.tail.get
  exact ⟨⟨a, b, c, d⟩, ⟨h⟩⟩
theorem op_far {w w' : World} {m e n f : Int} {M E : Value} (h : Bxs w w' [(w.heap.size + 1 + 1, #[.int .i64 0, .int .i64 0], 29), (w.heap.size, #[.int .i64 m, .int .i64 e], 29), (w.heap.size + 1, #[.int .i64 n, .int .i64 f], 29)]) : Bxs w ((w'.setCell ⟨w.heap.size + 1 + 1, 0, none⟩ M).setCell ⟨w.heap.size + 1 + 1, 1, none⟩ E) [(w.heap.size, #[.int .i64 m, .int .i64 e], 29), (w.heap.size + 1, #[.int .i64 n, .int .i64 f], 29)] := by
  refine ⟨fun p hp => ?_, below_set (below_set h.b (by omega)) (by omega)⟩
  simp only [List.mem_cons, List.not_mem_nil, or_false] at hp
  rcases hp with rfl | rfl
  · exact blk_far (blk_far h.tail.get (by dsimp only; omega) _) (by dsimp only; omega) _
  · exact blk_far (blk_far h.tail.tail.get (by dsimp only; omega) _) (by dsimp only; omega) _
theorem op_end {w w' : World} {m e n f M E : Int} (h : Bxs w w' [(w.heap.size + 1 + 1, #[.int .i64 0, .int .i64 0], 29), (w.heap.size, #[.int .i64 m, .int .i64 e], 29), (w.heap.size + 1, #[.int .i64 n, .int .i64 f], 29)]) : ((w'.setCell ⟨w.heap.size + 1 + 1, 0, none⟩ (.int .i64 M)).setCell ⟨w.heap.size + 1 + 1, 1, none⟩ (.int .i64 E)).heap[w.heap.size + 1 + 1]? = some (.cells #[.int .i64 M, .int .i64 E] 29 (0, 0)) ∧ Below w.heap.size w ((w'.setCell ⟨w.heap.size + 1 + 1, 0, none⟩ (.int .i64 M)).setCell ⟨w.heap.size + 1 + 1, 1, none⟩ (.int .i64 E)) :=
  ⟨blk_put (blk_put h.get 0 _ rfl) 1 _ rfl, below_set (below_set h.b (by omega)) (by omega)⟩
set_option maxHeartbeats 8000000 in
set_option maxRecDepth 100000 in
theorem hmul_walk (k k2 : Nat) (s how m e n f p c M E er H L H2 L2 P Q S : Int) (w : World) (hck : reals_check.f k s how [(⟨m, e⟩ : S29), (⟨n, f⟩ : S29)] = some (p, c)) (hc : c ≠ 0 → M = 0 ∧ E = 0 ∧ er = c)
    (h0 : c = 0 → reals_magnitude.f m = some (H, L) ∧ reals_magnitude.f n = some (H2, L2) ∧ reals_wide_times.f H L L2 = some (P, Q) ∧ IntKind.i64.wrap (e + f) = S ∧ reals_exact_round.f k2 ((decide (m < 0) != decide (n < 0))) P Q S false p how = some (M, E, er)) :
    Calls Try.prog 25 #[.int .i64 s, .int .i64 how, .agg #[.int .i64 m, .int .i64 e], .agg #[.int .i64 n, .int .i64 f]] w fun en w' => en = .returned (.tuple #[.agg #[.int .i64 M, .int .i64 E], .int .i64 er]) ∧ Below w.heap.size w w' := by
  have hu := Try.underlying29
  have hu2 := Try.underlying55
  have HCK := Aside0.mk hck; have HC := Aside0.mk hc; have H0 := Aside0.mk h0
  clear hck hc h0
  have HX := Aside0.mk (op_new w m e n f)
  go_enter Try.func25, Try.ntmps25
  go_wp2_with fail
  refine (reals_check.calls k s how _ 2 _ p c _ (row2 HX.out.get) (by simp) HCK.out).mono ?_
  rintro e1 w1 ⟨rfl, hb⟩
  have HX1 := Aside0.mk (HX.out.next hb).tail
  clear hb HX
  obtain ⟨⟨x0, x1, y0, y1, z0, z1, f0, f1⟩, _⟩ := op_s HX1.out
  by_cases hc : c = 0
  · obtain ⟨hm, hn, ht, hS, hr⟩ := H0.out hc
    have HM := Aside0.mk hm; have HN := Aside0.mk hn; have HT := Aside0.mk ht; have HR : Aside0 (reals_exact_round.f k2 (!(decide (m < 0) == decide (n < 0))) P Q S false p how = some (M, E, er)) := ⟨hr⟩
    subst hc
    clear hm hn ht hr
    have hfld : ∀ (W : World) (x y : Int), (Instr.field 55 (.agg #[.int .u64 x, .int .u64 y]) 1).run Try.prog W = .ok (.int .u64 y) W := fun _ _ _ => by kernel_rfl
    go_upto_region 4 with fail
    go_region_held3 (fun w' => (w'.cell? ⟨w.heap.size, 0, none⟩ = some (.int .i64 m) ∧ w'.cell? ⟨w.heap.size, 1, none⟩ = some (.int .i64 e) ∧ w'.cell? ⟨w.heap.size + 1, 0, none⟩ = some (.int .i64 n) ∧ w'.cell? ⟨w.heap.size + 1, 1, none⟩ = some (.int .i64 f)) ∧ Aside0 (Bxs w w' [(w.heap.size, #[.int .i64 m, .int .i64 e], 29), (w.heap.size + 1, #[.int .i64 n, .int .i64 f], 29)])) (((try go_split_ands); (refine op_t ?_); (first | exact op_far HX5.out | exact HX5.out.tail | exact HX4.out.tail | exact HX3.out.tail | exact HX2.out.tail | exact HX1.out.tail.drew))) (first | (go_at_call 46; (with_reducible refine (reals_magnitude.calls m H L _ HM.out).mono ?_); rintro e1 w2 ⟨rfl, hb⟩; have HX2 := Aside0.mk (HX1.out.drew.next hb); clear hb) | (go_at_call 46; (with_reducible refine (reals_magnitude.calls n H2 L2 _ HN.out).mono ?_); rintro e1 w3 ⟨rfl, hb⟩; have HX3 := Aside0.mk (HX2.out.next hb); clear hb) | (go_at_call 58; (with_reducible refine (reals_wide_times.calls H L L2 P Q _ HT.out).mono ?_); rintro e1 w4 ⟨rfl, hb⟩; have HX4 := Aside0.mk (HX3.out.next hb); clear hb) | (go_at_call 52; (with_reducible refine (reals_exact_round.calls k2 (!(decide (m < 0) == decide (n < 0))) P Q S false p how M E er _ HR.out).mono ?_); rintro e1 w5 ⟨rfl, hb⟩; have HX5 := Aside0.mk (HX4.out.next hb); clear hb z0 z1 f0 f1; obtain ⟨⟨_, _, _, _, z0, z1, f0, f1⟩, _⟩ := op_s HX5.out))
    all_goals go_wp2_with fail
    all_goals exact bodyPost_ret (results_ct rfl _ _ _ 29 #[.int .i64 M, .int .i64 E] (0, 0) _ rfl (op_end HX5.out).1 Try.underlying29 rfl (by kernel_rfl)) rfl ⟨rfl, (op_end HX5.out).2⟩
  · obtain ⟨rfl, rfl, rfl⟩ := HC.out hc
    have hk : (er == 0) = false := by rw [beq_eq_false_iff_ne]; exact hc
    have hk2 : (er != 0) = true := by rw [bne_iff_ne]; exact hc
    clear hc
    go_wp2_with fail
    exact bodyPost_ret (results_ct rfl _ _ _ 29 #[.int .i64 0, .int .i64 0] (0, 0) _ rfl (op_end HX1.out).1 Try.underlying29 rfl (by kernel_rfl)) rfl ⟨rfl, (op_end HX1.out).2⟩
/-! Add of the program, walked by hand -/
theorem add_swap {w w' : World} {m e n f : Int} (h : Bxs w w' [(w.heap.size + 1 + 1, #[.int .i64 0, .int .i64 0], 29), (w.heap.size, #[.int .i64 m, .int .i64 e], 29), (w.heap.size + 1, #[.int .i64 n, .int .i64 f], 29)]) : Bxs w ((((w'.setCell ⟨w.heap.size, 0, none⟩ (.int .i64 n)).setCell ⟨w.heap.size, 1, none⟩ (.int .i64 f)).setCell ⟨w.heap.size + 1, 0, none⟩ (.int .i64 m)).setCell ⟨w.heap.size + 1, 1, none⟩ (.int .i64 e)) [(w.heap.size + 1 + 1, #[.int .i64 0, .int .i64 0], 29), (w.heap.size, #[.int .i64 n, .int .i64 f], 29), (w.heap.size + 1, #[.int .i64 m, .int .i64 e], 29)] := by
  have h1 := h.swap.put2 (a' := .int .i64 n) (b' := .int .i64 f) (by intro p hp; simp only [List.mem_cons, List.not_mem_nil, or_false] at hp; rcases hp with rfl | rfl <;> dsimp only <;> omega) (by omega)
  have h2 := ((h1.perm (l' := [(w.heap.size + 1, #[.int .i64 n, .int .i64 f], 29), (w.heap.size + 1 + 1, #[.int .i64 0, .int .i64 0], 29), (w.heap.size, #[.int .i64 n, .int .i64 f], 29)]) (by intro p hp; simp only [List.mem_cons, List.not_mem_nil, or_false] at hp ⊢; rcases hp with h | h | h <;> simp [h])).put2 (a' := .int .i64 m) (b' := .int .i64 e) (by intro p hp; simp only [List.mem_cons, List.not_mem_nil, or_false] at hp; rcases hp with rfl | rfl <;> dsimp only <;> omega) (by omega))
  exact h2.perm (by intro p hp; simp only [List.mem_cons, List.not_mem_nil, or_false] at hp ⊢; rcases hp with h | h | h <;> simp [h])
set_option maxHeartbeats 8000000 in
set_option maxRecDepth 100000 in
theorem hadd_walk (k k2 : Nat) (s how m e n f p c M E er am ae bm be H L H2 L2 P Q S : Int) (xn yn zn mo : Bool) (w : World) (hck : reals_check.f k s how [(⟨m, e⟩ : S29), (⟨n, f⟩ : S29)] = some (p, c)) (hc : c ≠ 0 → M = 0 ∧ E = 0 ∧ er = c)
    (hx : c = 0 → m = 0 → M = n ∧ E = f ∧ er = 0) (hy : c = 0 → m ≠ 0 → n = 0 → M = m ∧ E = e ∧ er = 0) (hs1 : e < f → am = n ∧ ae = f ∧ bm = m ∧ be = e) (hs2 : ¬ e < f → am = m ∧ ae = e ∧ bm = n ∧ be = f)
    (h0 : c = 0 → m ≠ 0 → n ≠ 0 → reals_of.f am ae = some (xn, H, L, ae, false) ∧ reals_of.f bm be = some (yn, H2, L2, be, false) ∧ reals_sum.f xn H L ae false yn H2 L2 be false = some (zn, P, Q, S, mo) ∧ reals_exact_round.f k2 zn P Q S mo p how = some (M, E, er)) :
    Calls Try.prog 21 #[.int .i64 s, .int .i64 how, .agg #[.int .i64 m, .int .i64 e], .agg #[.int .i64 n, .int .i64 f]] w fun en w' => en = .returned (.tuple #[.agg #[.int .i64 M, .int .i64 E], .int .i64 er]) ∧ Below w.heap.size w w' := by
  have hu := Try.underlying29
  have HCK := Aside0.mk hck; have HC := Aside0.mk hc; have HXZ := Aside0.mk hx; have HYZ := Aside0.mk hy; have HS1 := Aside0.mk hs1; have HS2 := Aside0.mk hs2; have H0 := Aside0.mk h0
  clear hck hc hx hy hs1 hs2 h0
  have HX := Aside0.mk (op_new w m e n f)
  go_enter Try.func21, Try.ntmps21
  go_wp2_with fail
  refine (reals_check.calls k s how _ 2 _ p c _ (row2 HX.out.get) (by simp) HCK.out).mono ?_
  rintro e1 w1 ⟨rfl, hb⟩
  have HX1 := Aside0.mk (HX.out.next hb).tail
  clear hb HX
  obtain ⟨⟨x0, x1, y0, y1, z0, z1, f0, f1⟩, _⟩ := op_s HX1.out
  by_cases hc : c = 0
  · by_cases hm : m = 0
    · obtain ⟨rfl, rfl, rfl⟩ := HXZ.out hc hm
      subst hc; subst hm
      go_wp2_with fail
      exact bodyPost_ret (results_ct rfl _ _ _ 29 #[.int .i64 M, .int .i64 E] (0, 0) _ rfl (op_end HX1.out).1 Try.underlying29 rfl (by kernel_rfl)) rfl ⟨rfl, (op_end HX1.out).2⟩
    · have hm1 : (m == 0) = false := by rw [beq_eq_false_iff_ne]; exact hm
      by_cases hn : n = 0
      · obtain ⟨rfl, rfl, rfl⟩ := HYZ.out hc hm hn
        subst hc; subst hn
        go_wp2_with fail
        exact bodyPost_ret (results_ct rfl _ _ _ 29 #[.int .i64 M, .int .i64 E] (0, 0) _ rfl (op_end HX1.out).1 Try.underlying29 rfl (by kernel_rfl)) rfl ⟨rfl, (op_end HX1.out).2⟩
      · have hn1 : (n == 0) = false := by rw [beq_eq_false_iff_ne]; exact hn
        obtain ⟨g1, g2, g3, g4⟩ := H0.out hc hm hn
        have G1 := Aside0.mk g1; have G2 := Aside0.mk g2; have G3 := Aside0.mk g3; have G4 := Aside0.mk g4
        subst hc
        clear g1 g2 g3 g4 hm hn
        obtain ⟨fx0, fx1⟩ := f2 HX1.out.tail.get
        obtain ⟨fy0, fy1⟩ := f2 HX1.out.tail.tail.get
        go_upto_if 37 with fail
        go_cut [] (fun wx => Aside0 (Bxs w wx [(w.heap.size + 1 + 1, #[.int .i64 0, .int .i64 0], 29), (w.heap.size, #[.int .i64 am, .int .i64 ae], 29), (w.heap.size + 1, #[.int .i64 bm, .int .i64 be], 29)]))
        case first =>
          by_cases hef : e < f
          · obtain ⟨rfl, rfl, rfl, rfl⟩ := HS1.out (by omega)
            have hd := decide_eq_true hef
            go_wp2_with fail
            go_meet
            exact ⟨add_swap HX1.out⟩
          · obtain ⟨rfl, rfl, rfl, rfl⟩ := HS2.out (by omega)
            have hd := decide_eq_false hef
            go_wp2_with fail
            go_meet
            exact HX1
        case rest =>
          have HX2 := hcut
          clear hcut HX1 x0 x1 y0 y1 z0 z1 f0 f1 fx0 fx1 fy0 fy1
          obtain ⟨⟨x0, x1, y0, y1, z0, z1, f0, f1⟩, _⟩ := op_s HX2.out
          go_upto_region 10 with fail
          go_region_held3 (fun w' => (w'.cell? ⟨w.heap.size, 0, none⟩ = some (.int .i64 am) ∧ w'.cell? ⟨w.heap.size, 1, none⟩ = some (.int .i64 ae) ∧ w'.cell? ⟨w.heap.size + 1, 0, none⟩ = some (.int .i64 bm) ∧ w'.cell? ⟨w.heap.size + 1, 1, none⟩ = some (.int .i64 be)) ∧ Aside0 (Bxs w w' [(w.heap.size, #[.int .i64 am, .int .i64 ae], 29), (w.heap.size + 1, #[.int .i64 bm, .int .i64 be], 29)])) (((try go_split_ands); (refine op_t ?_); (first | exact op_far HX6.out | exact HX6.out.tail | exact HX5.out.tail | exact HX4.out.tail | exact HX3.out.tail | exact HX2.out.tail.drew))) (first | (go_at_call 51; (with_reducible refine (reals_of.calls am ae xn H L ae false _ G1.out).mono ?_); rintro e1 w3 ⟨rfl, hb⟩; have HX3 := Aside0.mk (HX2.out.drew.next hb); clear hb) | (go_at_call 51; (with_reducible refine (reals_of.calls bm be yn H2 L2 be false _ G2.out).mono ?_); rintro e1 w4 ⟨rfl, hb⟩; have HX4 := Aside0.mk (HX3.out.next hb); clear hb) | (go_at_call 56; (with_reducible refine (reals_sum.calls xn H L ae false yn H2 L2 be false zn P Q S mo _ G3.out).mono ?_); rintro e1 w5 ⟨rfl, hb⟩; have HX5 := Aside0.mk (HX4.out.next hb); clear hb) | (go_at_call 52; (with_reducible refine (reals_exact_round.calls k2 zn P Q S mo p how M E er _ G4.out).mono ?_); rintro e1 w6 ⟨rfl, hb⟩; have HX6 := Aside0.mk (HX5.out.next hb); clear hb; clear z0 z1 f0 f1; obtain ⟨⟨_, _, _, _, z0, z1, f0, f1⟩, _⟩ := op_s HX6.out))
          all_goals go_wp2_with fail
          all_goals exact bodyPost_ret (results_ct rfl _ _ _ 29 #[.int .i64 M, .int .i64 E] (0, 0) _ rfl (op_end HX6.out).1 Try.underlying29 rfl (by kernel_rfl)) rfl ⟨rfl, (op_end HX6.out).2⟩
  · obtain ⟨rfl, rfl, rfl⟩ := HC.out hc
    have hk : (er == 0) = false := by rw [beq_eq_false_iff_ne]; exact hc
    have hk2 : (er != 0) = true := by rw [bne_iff_ne]; exact hc
    clear hc
    go_wp2_with fail
    exact bodyPost_ret (results_ct rfl _ _ _ 29 #[.int .i64 0, .int .i64 0] (0, 0) _ rfl (op_end HX1.out).1 Try.underlying29 rfl (by kernel_rfl)) rfl ⟨rfl, (op_end HX1.out).2⟩
/-! Div of the program, walked by hand -/
theorem div_s {w w' : World} {g : Nat} {m e n f H L : Int} (h : Bxs w w' ((g, #[.int .u64 H, .int .u64 L], 55) :: [(w.heap.size + 1 + 1, #[.int .i64 0, .int .i64 0], 29), (w.heap.size, #[.int .i64 m, .int .i64 e], 29), (w.heap.size + 1, #[.int .i64 n, .int .i64 f], 29)])) : (w'.cell? ⟨g, 0, none⟩ = some (.int .u64 H) ∧ w'.cell? ⟨g, 1, none⟩ = some (.int .u64 L) ∧ w'.cell? ⟨w.heap.size + 1, 0, none⟩ = some (.int .i64 n)) ∧ Aside0 (Bxs w w' ((g, #[.int .u64 H, .int .u64 L], 55) :: [(w.heap.size + 1 + 1, #[.int .i64 0, .int .i64 0], 29), (w.heap.size, #[.int .i64 m, .int .i64 e], 29), (w.heap.size + 1, #[.int .i64 n, .int .i64 f], 29)])) := by
  obtain ⟨a, b⟩ := c2 h.get; obtain ⟨c, _⟩ := c2 h.tail.tail.tail.get
  exact ⟨⟨a, b, c⟩, ⟨h⟩⟩
theorem div_far {w w' : World} {g k : Nat} {m e n f H L : Int} {u v : Value} (h : Bxs w w' ((g, #[.int .u64 H, .int .u64 L], 55) :: [(w.heap.size + 1 + 1, #[.int .i64 0, .int .i64 0], 29), (w.heap.size, #[.int .i64 m, .int .i64 e], 29), (w.heap.size + 1, #[.int .i64 n, .int .i64 f], 29)])) (hk : g < k) (hg : w.heap.size + 1 + 1 < g) : Bxs w ((w'.setCell ⟨k, 0, none⟩ u).setCell ⟨k, 1, none⟩ v) ((g, #[.int .u64 H, .int .u64 L], 55) :: [(w.heap.size + 1 + 1, #[.int .i64 0, .int .i64 0], 29), (w.heap.size, #[.int .i64 m, .int .i64 e], 29), (w.heap.size + 1, #[.int .i64 n, .int .i64 f], 29)]) := by
  refine ⟨fun p hp => ?_, below_set (below_set h.b (by omega)) (by omega)⟩
  have hq := h.h p hp
  simp only [List.mem_cons, List.not_mem_nil, or_false] at hp
  refine blk_far (blk_far hq ?_ _) ?_ _ <;> rcases hp with rfl | rfl | rfl | rfl <;> dsimp only <;> omega
def DivP (w wx : World) (q : Array Value) (l : List (Nat × Array Value × TypeId)) (s14 : Value) : Prop := ∃ g, s14 = .pointer (some ⟨g, 0, none⟩) ∧ Bxs w wx ((g, q, 55) :: l)
theorem div_new {w w' : World} {q : Array Value} {l : List (Nat × Array Value × TypeId)} (h : Bxs w w' l) : DivP w (w'.alloc (.cells q 55)) q l (.pointer (some ⟨w'.heap.size, 0, none⟩)) := ⟨_, rfl, h.push q 55⟩
theorem div_put {w w' : World} {k : Nat} {a b u v : Value} {l : List (Nat × Array Value × TypeId)} (h : Bxs w w' l) (hk : w'.heap[k]? = some (.cells #[u, v] 55 (0, 0))) (hl : ∀ p ∈ l, p.1 ≠ k) (hw : w.heap.size ≤ k) : DivP w ((w'.setCell ⟨k, 0, none⟩ a).setCell ⟨k, 1, none⟩ b) #[a, b] l (.pointer (some ⟨k, 0, none⟩)) := by
  refine ⟨_, rfl, fun p hp => ?_, below_set (below_set h.b hw) hw⟩
  rcases List.mem_cons.1 hp with rfl | hp
  · exact blk_put (blk_put hk 0 _ rfl) 1 _ rfl
  · exact blk_far (blk_far (h.h p hp) (hl p hp) _) (hl p hp) _
set_option maxHeartbeats 8000000 in
set_option maxRecDepth 100000 in
theorem hdiv_walk (k k2 k3 k4 : Nat) (s how m e n f p c M E er H L t N C0 D0 H2 L2 Q0 Q1 RR X1 X2 : Int) (w : World) (hck : reals_check.f k s how [(⟨m, e⟩ : S29), (⟨n, f⟩ : S29)] = some (p, c)) (hc : c ≠ 0 → M = 0 ∧ E = 0 ∧ er = c) (hn0 : c = 0 → n = 0 → M = 0 ∧ E = 0 ∧ er = 11)
    (h0 : c = 0 → n ≠ 0 → reals_magnitude.f m = some (H, L) ∧ reals_wide_digits.f H L = some t ∧ IntKind.i64.wrap (38 - t) = N ∧ reals_wide_scaled.f k2 H L N = some (C0, D0) ∧ reals_magnitude.f n = some (H2, L2) ∧ reals_wide_over.f k3 C0 D0 L2 = some (Q0, Q1, RR) ∧ IntKind.i64.wrap (e - N) = X1 ∧ IntKind.i64.wrap (X1 - f) = X2 ∧ reals_exact_round.f k4 ((decide (m < 0) != decide (n < 0))) Q0 Q1 X2 (RR != 0) p how = some (M, E, er)) :
    Calls Try.prog 27 #[.int .i64 s, .int .i64 how, .agg #[.int .i64 m, .int .i64 e], .agg #[.int .i64 n, .int .i64 f]] w fun en w' => en = .returned (.tuple #[.agg #[.int .i64 M, .int .i64 E], .int .i64 er]) ∧ Below w.heap.size w w' := by
  have hu := Try.underlying29
  have hu2 := Try.underlying55
  have HCK := Aside0.mk hck; have HC := Aside0.mk hc; have HNZ := Aside0.mk hn0; have H0 := Aside0.mk h0
  clear hck hc hn0 h0
  have HX := Aside0.mk (op_new w m e n f)
  go_enter Try.func27, Try.ntmps27
  go_wp2_with fail
  refine (reals_check.calls k s how _ 2 _ p c _ (row2 HX.out.get) (by simp) HCK.out).mono ?_
  rintro e1 w1 ⟨rfl, hb⟩
  have HX1 := Aside0.mk (HX.out.next hb).tail
  clear hb HX
  obtain ⟨⟨x0, x1, y0, y1, z0, z1, f0, f1⟩, _⟩ := op_s HX1.out
  by_cases hc : c = 0
  · by_cases hn : n = 0
    · obtain ⟨rfl, rfl, rfl⟩ := HNZ.out hc hn
      subst hc; subst hn
      go_wp2_with fail
      exact bodyPost_ret (results_ct rfl _ _ _ 29 #[.int .i64 0, .int .i64 0] (0, 0) _ rfl (op_end HX1.out).1 Try.underlying29 rfl (by kernel_rfl)) rfl ⟨rfl, (op_end HX1.out).2⟩
    · have hn1 : (n == 0) = false := by rw [beq_eq_false_iff_ne]; exact hn
      obtain ⟨g1, g2, g3, g4, g5, g6, g7, g8, g9⟩ := H0.out hc hn
      have G1 := Aside0.mk g1; have G2 := Aside0.mk g2; have G3 := Aside0.mk g3; have G4 := Aside0.mk g4; have G5 := Aside0.mk g5; have G6 := Aside0.mk g6; have G7 := Aside0.mk g7; have G8 := Aside0.mk g8
      have G9 : Aside0 (reals_exact_round.f k4 (!(decide (m < 0) == decide (n < 0))) Q0 Q1 X2 (!(RR == 0)) p how = some (M, E, er)) := ⟨g9⟩
      subst hc
      clear g1 g2 g3 g4 g5 g6 g7 g8 g9 hn
      go_wp2_with fail
      refine (reals_magnitude.calls m H L _ G1.out).mono ?_
      rintro e1 w2 ⟨rfl, hb⟩
      have HX2 := Aside0.mk ((HX1.out.next hb).push #[.int .u64 H, .int .u64 L] 55)
      have hg := blk_lt (HX1.out.next hb).get
      clear hb HX1 x0 x1 y0 y1 z0 z1 f0 f1
      go_wp2_with fail
      refine (reals_wide_digits.calls H L t _ G2.out).mono ?_
      rintro e1 w3 ⟨rfl, hb⟩
      have HX3 := Aside0.mk (HX2.out.next hb)
      clear hb HX2
      have g3 := G3.out
      have hfld : ∀ (W : World) (x y : Int), (Instr.field 55 (.agg #[.int .u64 x, .int .u64 y]) 1).run Try.prog W = .ok (.int .u64 y) W := fun _ _ _ => by kernel_rfl
      have jg := blk_lt HX3.out.get
      go_upto_region 8 with fail
      go_cut [14, 15] (fun s14 s15 wx => s15 = .int .u64 RR ∧ DivP w wx #[.int .u64 Q0, .int .u64 Q1] ((w2.heap.size, #[.int .u64 H, .int .u64 L], 55) :: [(w.heap.size + 1 + 1, #[.int .i64 0, .int .i64 0], 29), (w.heap.size, #[.int .i64 m, .int .i64 e], 29), (w.heap.size + 1, #[.int .i64 n, .int .i64 f], 29)]) s14)
      case first =>
        go_region_held3 (fun w' => (w'.cell? ⟨w2.heap.size, 0, none⟩ = some (.int .u64 H) ∧ w'.cell? ⟨w2.heap.size, 1, none⟩ = some (.int .u64 L) ∧ w'.cell? ⟨w.heap.size + 1, 0, none⟩ = some (.int .i64 n)) ∧ Aside0 (Bxs w w' ((w2.heap.size, #[.int .u64 H, .int .u64 L], 55) :: [(w.heap.size + 1 + 1, #[.int .i64 0, .int .i64 0], 29), (w.heap.size, #[.int .i64 m, .int .i64 e], 29), (w.heap.size + 1, #[.int .i64 n, .int .i64 f], 29)]))) (((try go_split_ands); (refine div_s ?_); (repeat (first | (refine Aside0.out ?_; assumption) | refine Bxs.drew ?_ | refine Bxs.alloc ?_ _ | refine div_far ?_ (by omega) hg)))) (first | (go_at_call 60; (with_reducible refine (reals_wide_scaled.calls k2 H L N C0 D0 _ G4.out).mono ?_); rintro e1 w4 ⟨rfl, hb⟩; have HX4 : Aside0 (Bxs w w4 ((w2.heap.size, #[.int .u64 H, .int .u64 L], 55) :: [(w.heap.size + 1 + 1, #[.int .i64 0, .int .i64 0], 29), (w.heap.size, #[.int .i64 m, .int .i64 e], 29), (w.heap.size + 1, #[.int .i64 n, .int .i64 f], 29)])) := ⟨(by repeat (first | (refine Aside0.out ?_; assumption) | refine Bxs.next ?_ hb | refine Bxs.drew ?_ | refine Bxs.alloc ?_ _))⟩; (try have BN2 := Aside0.mk (blk_below BN.out hb)); (try have BN := Aside0.mk (blk_below (blk_new _ _) hb)); (try have BN := Aside0.mk (blk_below (blk_drew (blk_new _ _)) hb)); (try (clear BN; have BN := BN2; clear BN2)); (try have cn0 := (blk_cell BN.out 0).trans rfl); (try have cn1 := (blk_cell BN.out 1).trans rfl); (try have fn0 := blk_frozen BN.out 0); (try have fn1 := blk_frozen BN.out 1); (try have jn := blk_lt BN.out); have jg := blk_lt HX4.out.get; clear hb) | (go_at_call 46; (with_reducible refine (reals_magnitude.calls n H2 L2 _ G5.out).mono ?_); rintro e1 w5 ⟨rfl, hb⟩; have HX5 : Aside0 (Bxs w w5 ((w2.heap.size, #[.int .u64 H, .int .u64 L], 55) :: [(w.heap.size + 1 + 1, #[.int .i64 0, .int .i64 0], 29), (w.heap.size, #[.int .i64 m, .int .i64 e], 29), (w.heap.size + 1, #[.int .i64 n, .int .i64 f], 29)])) := ⟨(by repeat (first | (refine Aside0.out ?_; assumption) | refine Bxs.next ?_ hb | refine Bxs.drew ?_ | refine Bxs.alloc ?_ _))⟩; (try have BN2 := Aside0.mk (blk_below BN.out hb)); (try have BN := Aside0.mk (blk_below (blk_new _ _) hb)); (try have BN := Aside0.mk (blk_below (blk_drew (blk_new _ _)) hb)); (try (clear BN; have BN := BN2; clear BN2)); (try have cn0 := (blk_cell BN.out 0).trans rfl); (try have cn1 := (blk_cell BN.out 1).trans rfl); (try have fn0 := blk_frozen BN.out 0); (try have fn1 := blk_frozen BN.out 1); (try have jn := blk_lt BN.out); have jg := blk_lt HX5.out.get; clear hb) | (go_at_call 61; (with_reducible refine (reals_wide_over.calls k3 C0 D0 L2 Q0 Q1 RR _ G6.out).mono ?_); rintro e1 w6 ⟨rfl, hb⟩; have HX6 : Aside0 (Bxs w w6 ((w2.heap.size, #[.int .u64 H, .int .u64 L], 55) :: [(w.heap.size + 1 + 1, #[.int .i64 0, .int .i64 0], 29), (w.heap.size, #[.int .i64 m, .int .i64 e], 29), (w.heap.size + 1, #[.int .i64 n, .int .i64 f], 29)])) := ⟨(by repeat (first | (refine Aside0.out ?_; assumption) | refine Bxs.next ?_ hb | refine Bxs.drew ?_ | refine Bxs.alloc ?_ _))⟩; (try have BN2 := Aside0.mk (blk_below BN.out hb)); (try have BN := Aside0.mk (blk_below (blk_new _ _) hb)); (try have BN := Aside0.mk (blk_below (blk_drew (blk_new _ _)) hb)); (try (clear BN; have BN := BN2; clear BN2)); (try have cn0 := (blk_cell BN.out 0).trans rfl); (try have cn1 := (blk_cell BN.out 1).trans rfl); (try have fn0 := blk_frozen BN.out 0); (try have fn1 := blk_frozen BN.out 1); (try have jn := blk_lt BN.out); have jg := blk_lt HX6.out.get; clear hb))
        all_goals (go_wp2_with fail; go_meet)
        all_goals (first | (with_reducible exact ⟨rfl, div_new HX6.out⟩) | (refine ⟨rfl, div_put HX6.out BN.out ?_ ?_⟩; (intro p hp; simp only [List.mem_cons, List.not_mem_nil, or_false] at hp; rcases hp with rfl | rfl | rfl | rfl <;> dsimp only <;> omega); omega))
      case rest =>
        obtain ⟨rfl, g14, rfl, HX7⟩ := hcut
        have HX := Aside0.mk HX7
        clear HX7 HX3 jg
        obtain ⟨q0, q1⟩ := c2 HX.out.get
        obtain ⟨x0, x1⟩ := c2 HX.out.tail.tail.tail.get
        obtain ⟨y0, y1⟩ := c2 HX.out.tail.tail.tail.tail.get
        have g7 := G7.out; have g8 := G8.out
        go_wp2_with fail
        refine (reals_exact_round.calls k4 (!(decide (m < 0) == decide (n < 0))) Q0 Q1 X2 (!(RR == 0)) p how M E er _ G9.out).mono ?_
        rintro e1 w8 ⟨rfl, hb⟩
        have HX8 := Aside0.mk (HX.out.next hb).tail.tail
        clear hb HX q0 q1 x0 x1 y0 y1
        obtain ⟨⟨x0, x1, y0, y1, z0, z1, f0, f1⟩, _⟩ := op_s HX8.out
        go_wp2_with fail
        exact bodyPost_ret (results_ct rfl _ _ _ 29 #[.int .i64 M, .int .i64 E] (0, 0) _ rfl (op_end HX8.out).1 Try.underlying29 rfl (by kernel_rfl)) rfl ⟨rfl, (op_end HX8.out).2⟩
  · obtain ⟨rfl, rfl, rfl⟩ := HC.out hc
    have hk : (er == 0) = false := by rw [beq_eq_false_iff_ne]; exact hc
    have hk2 : (er != 0) = true := by rw [bne_iff_ne]; exact hc
    clear hc
    go_wp2_with fail
    exact bodyPost_ret (results_ct rfl _ _ _ 29 #[.int .i64 0, .int .i64 0] (0, 0) _ rfl (op_end HX1.out).1 Try.underlying29 rfl (by kernel_rfl)) rfl ⟨rfl, (op_end HX1.out).2⟩
/-! one-place operations of the program, walked by hand: Sqrt -/
theorem un_new (w : World) (m e : Int) : Bxs w (((w.alloc (.cells #[.int .i64 m, .int .i64 e] 29)).alloc (.cells #[.int .i64 0, .int .i64 0] 29)).alloc (.cells #[.int .i64 m, .int .i64 e] 29)) [(w.heap.size + 1 + 1, #[.int .i64 m, .int .i64 e], 29), (w.heap.size + 1, #[.int .i64 0, .int .i64 0], 29), (w.heap.size, #[.int .i64 m, .int .i64 e], 29)] := by
  have h := (((bxs_nil w).push #[.int .i64 m, .int .i64 e] 29).push #[.int .i64 0, .int .i64 0] 29).push #[.int .i64 m, .int .i64 e] 29
  simpa using h
theorem un_cells {w w' : World} {m e : Int} (h : Bxs w w' [(w.heap.size + 1, #[.int .i64 0, .int .i64 0], 29), (w.heap.size, #[.int .i64 m, .int .i64 e], 29)]) : w'.cell? ⟨w.heap.size, 0, none⟩ = some (.int .i64 m) ∧ w'.cell? ⟨w.heap.size, 1, none⟩ = some (.int .i64 e) ∧ w'.cell? ⟨w.heap.size + 1, 0, none⟩ = some (.int .i64 0) ∧ w'.cell? ⟨w.heap.size + 1, 1, none⟩ = some (.int .i64 0) ∧ w'.frozen? ⟨w.heap.size + 1, 0, none⟩ = false ∧ w'.frozen? ⟨w.heap.size + 1, 1, none⟩ = false := by
  obtain ⟨a, b⟩ := c2 h.tail.get; obtain ⟨i, j⟩ := c2 h.get; obtain ⟨k, l⟩ := f2 h.get
  exact ⟨a, b, i, j, k, l⟩
theorem un_end {w w' : World} {m e M E : Int} (h : Bxs w w' [(w.heap.size + 1, #[.int .i64 0, .int .i64 0], 29), (w.heap.size, #[.int .i64 m, .int .i64 e], 29)]) : ((w'.setCell ⟨w.heap.size + 1, 0, none⟩ (.int .i64 M)).setCell ⟨w.heap.size + 1, 1, none⟩ (.int .i64 E)).heap[w.heap.size + 1]? = some (.cells #[.int .i64 M, .int .i64 E] 29 (0, 0)) ∧ Below w.heap.size w ((w'.setCell ⟨w.heap.size + 1, 0, none⟩ (.int .i64 M)).setCell ⟨w.heap.size + 1, 1, none⟩ (.int .i64 E)) :=
  ⟨blk_put (blk_put h.get 0 _ rfl) 1 _ rfl, below_set (below_set h.b (by omega)) (by omega)⟩
theorem sq_s {w w' : World} {g : Nat} {m e C0 D0 : Int} (h : Bxs w w' ((g, #[.int .u64 C0, .int .u64 D0], 55) :: [(w.heap.size, #[.int .i64 m, .int .i64 e], 29)])) : (w'.cell? ⟨g, 0, none⟩ = some (.int .u64 C0) ∧ w'.cell? ⟨g, 1, none⟩ = some (.int .u64 D0) ∧ w'.cell? ⟨w.heap.size, 1, none⟩ = some (.int .i64 e)) ∧ Aside0 (Bxs w w' ((g, #[.int .u64 C0, .int .u64 D0], 55) :: [(w.heap.size, #[.int .i64 m, .int .i64 e], 29)])) := by
  obtain ⟨a, b⟩ := c2 h.get; obtain ⟨_, d⟩ := c2 h.tail.get
  exact ⟨⟨a, b, d⟩, ⟨h⟩⟩
theorem sq_drop {w w' : World} {g : Nat} {m e C0 D0 : Int} (h : Bxs w w' ((g, #[.int .u64 C0, .int .u64 D0], 55) :: [(w.heap.size + 1, #[.int .i64 0, .int .i64 0], 29), (w.heap.size, #[.int .i64 m, .int .i64 e], 29)])) : Bxs w w' ((g, #[.int .u64 C0, .int .u64 D0], 55) :: [(w.heap.size, #[.int .i64 m, .int .i64 e], 29)]) := h.perm (by intro p hp; simp only [List.mem_cons, List.not_mem_nil, or_false] at hp ⊢; rcases hp with h | h <;> simp [h])
theorem sq_far {w w' : World} {g : Nat} {m e C0 D0 : Int} {u v : Value} (h : Bxs w w' ((g, #[.int .u64 C0, .int .u64 D0], 55) :: [(w.heap.size + 1, #[.int .i64 0, .int .i64 0], 29), (w.heap.size, #[.int .i64 m, .int .i64 e], 29)])) (hg : w.heap.size + 1 < g) : Bxs w ((w'.setCell ⟨w.heap.size + 1, 0, none⟩ u).setCell ⟨w.heap.size + 1, 1, none⟩ v) ((g, #[.int .u64 C0, .int .u64 D0], 55) :: [(w.heap.size, #[.int .i64 m, .int .i64 e], 29)]) := by
  refine ⟨fun p hp => ?_, below_set (below_set h.b (by omega)) (by omega)⟩
  simp only [List.mem_cons, List.not_mem_nil, or_false] at hp
  rcases hp with rfl | rfl
  · exact blk_far (blk_far h.get (by dsimp only; omega) _) (by dsimp only; omega) _
  · exact blk_far (blk_far h.tail.tail.get (by dsimp only; omega) _) (by dsimp only; omega) _
set_option maxHeartbeats 8000000 in
set_option maxRecDepth 100000 in
theorem hsqrt_walk (k k2 k3 k4 : Nat) (s how m e p c M E er H L t N D1 N2 C0 D0 r SH SL D2 Q : Int) (w : World) (hck : reals_check.f k s how [(⟨m, e⟩ : S29)] = some (p, c)) (hc : c ≠ 0 → M = 0 ∧ E = 0 ∧ er = c) (hneg : c = 0 → m < 0 → M = 0 ∧ E = 0 ∧ er = 11)
    (h0 : c = 0 → ¬ m < 0 → reals_magnitude.f m = some (H, L) ∧ reals_wide_digits.f H L = some t ∧ IntKind.i64.wrap (38 - t) = N ∧ IntKind.i64.wrap (e - N) = D1 ∧ (Int.tmod D1 2 = 0 → N2 = N) ∧ (Int.tmod D1 2 ≠ 0 → IntKind.i64.wrap (N - 1) = N2) ∧ reals_wide_scaled.f k2 H L N2 = some (C0, D0) ∧ reals_wide_root.f k3 C0 D0 = some r ∧ reals_square.f r = some (SH, SL) ∧ IntKind.i64.wrap (e - N2) = D2 ∧ IntKind.i64.wrap (Int.tdiv D2 2) = Q ∧ reals_exact_round.f k4 false 0 r Q (!(SH == C0) || !(SL == D0)) p how = some (M, E, er)) :
    Calls Try.prog 29 #[.int .i64 s, .int .i64 how, .agg #[.int .i64 m, .int .i64 e]] w fun en w' => en = .returned (.tuple #[.agg #[.int .i64 M, .int .i64 E], .int .i64 er]) ∧ Below w.heap.size w w' := by
  have hu := Try.underlying29
  have hu2 := Try.underlying55
  have HCK := Aside0.mk hck; have HC := Aside0.mk hc; have HNZ := Aside0.mk hneg; have H0 := Aside0.mk h0
  clear hck hc hneg h0
  have HX := Aside0.mk (un_new w m e)
  go_enter Try.func29, Try.ntmps29
  go_wp2_with fail
  refine (reals_check.calls k s how _ 1 _ p c _ (row1 HX.out.get) (by simp) HCK.out).mono ?_
  rintro e1 w1 ⟨rfl, hb⟩
  have HX1 := Aside0.mk (HX.out.next hb).tail
  clear hb HX
  obtain ⟨x0, x1, z0, z1, f0, f1⟩ := un_cells HX1.out
  by_cases hc : c = 0
  · by_cases hn : m < 0
    · obtain ⟨rfl, rfl, rfl⟩ := HNZ.out hc hn
      have hd := decide_eq_true hn
      subst hc
      go_wp2_with fail
      exact bodyPost_ret (results_ct rfl _ _ _ 29 #[.int .i64 0, .int .i64 0] (0, 0) _ rfl (un_end HX1.out).1 Try.underlying29 rfl (by kernel_rfl)) rfl ⟨rfl, (un_end HX1.out).2⟩
    · have hn1 := decide_eq_false hn
      obtain ⟨g1, g2, g3, g4, g5, g6, g7, g8, g9, g10, g11, g12⟩ := H0.out hc (by omega)
      have G1 := Aside0.mk g1; have G2 := Aside0.mk g2; have G3 := Aside0.mk g3; have G4 := Aside0.mk g4; have G5 := Aside0.mk g5; have G6 := Aside0.mk g6; have G7 := Aside0.mk g7; have G8 := Aside0.mk g8; have G9 := Aside0.mk g9; have G10 := Aside0.mk g10; have G11 := Aside0.mk g11; have G12 := Aside0.mk g12
      subst hc
      clear g1 g2 g3 g4 g5 g6 g7 g8 g9 g10 g11 g12 hn
      go_wp2_with fail
      refine (reals_magnitude.calls m H L _ G1.out).mono ?_
      rintro e1 w2 ⟨rfl, hb⟩
      have HX2 := Aside0.mk ((HX1.out.next hb).push #[.int .u64 H, .int .u64 L] 55)
      have hg := blk_lt (HX1.out.next hb).get
      clear hb HX1 x0 x1 z0 z1 f0 f1
      go_wp2_with fail
      refine (reals_wide_digits.calls H L t _ G2.out).mono ?_
      rintro e1 w3 ⟨rfl, hb⟩
      have HX3 := Aside0.mk (HX2.out.next hb)
      clear hb HX2
      have g3 := G3.out; have g4 := G4.out
      obtain ⟨x0, x1⟩ := c2 HX3.out.tail.tail.get
      go_upto_if 42 with fail
      go_cut [11] (fun s11 wx => s11 = .int .i64 N2 ∧ Aside0 (Bxs w wx ((w2.heap.size, #[.int .u64 H, .int .u64 L], 55) :: [(w.heap.size + 1, #[.int .i64 0, .int .i64 0], 29), (w.heap.size, #[.int .i64 m, .int .i64 e], 29)])))
      case first =>
        by_cases hd : Int.tmod D1 2 = 0
        · have hd1 : (Int.tmod D1 2 != 0) = false := by rw [bne_eq_false_iff_eq]; exact hd
          have hN := G5.out hd
          subst hN
          go_wp2_with fail
          go_meet
          exact ⟨rfl, HX3⟩
        · have hd1 : (Int.tmod D1 2 != 0) = true := by rw [bne_iff_ne]; exact hd
          have hN := G6.out hd
          go_wp2_with fail
          go_meet
          exact ⟨rfl, HX3⟩
      case rest =>
        obtain ⟨rfl, HX⟩ := hcut
        clear HX3 x0 x1 g3 g4 G5 G6
        obtain ⟨a0, a1⟩ := c2 HX.out.get
        go_wp2_with fail
        refine (reals_wide_scaled.calls k2 H L N2 C0 D0 _ G7.out).mono ?_
        rintro e1 w4 ⟨rfl, hb⟩
        have HX4 := Aside0.mk ((HX.out.next hb).put2 (a' := .int .u64 C0) (b' := .int .u64 D0) (by intro p hp; simp only [List.mem_cons, List.not_mem_nil, or_false] at hp; rcases hp with rfl | rfl <;> dsimp only <;> omega) (by omega))
        clear a0 a1
        obtain ⟨a0, a1⟩ := c2 (HX.out.next hb).get
        obtain ⟨fa0, fa1⟩ := f2 (HX.out.next hb).get
        clear HX hb
        go_wp2_with fail
        refine (reals_wide_root.calls k3 C0 D0 r _ G8.out).mono ?_
        rintro e1 w5 ⟨rfl, hb⟩
        have HX5 := Aside0.mk (HX4.out.next hb)
        clear hb HX4 a0 a1 fa0 fa1
        have g10 := G10.out; have g11 := G11.out
        have heq : ∀ d W, (Op.equalIn (d + 2) 55 (.agg #[.int .u64 SH, .int .u64 SL]) (.agg #[.int .u64 C0, .int .u64 D0])).run Try.prog W = .ok (SH == C0 && (SL == D0)) W := fun d W => eqA55 d W SH C0 SL D0
        go_upto_region 12 with fail
        go_region_held3 (fun w' => (w'.cell? ⟨w2.heap.size, 0, none⟩ = some (.int .u64 C0) ∧ w'.cell? ⟨w2.heap.size, 1, none⟩ = some (.int .u64 D0) ∧ w'.cell? ⟨w.heap.size, 1, none⟩ = some (.int .i64 e)) ∧ Aside0 (Bxs w w' ((w2.heap.size, #[.int .u64 C0, .int .u64 D0], 55) :: [(w.heap.size, #[.int .i64 m, .int .i64 e], 29)]))) (((try go_split_ands); (refine sq_s ?_); (first | exact sq_far HX7.out hg | exact sq_drop HX7.out | exact sq_drop HX6.out | exact sq_drop HX5.out.drew))) (first | (go_at_call 65; (with_reducible refine (reals_square.calls r SH SL _ G9.out).mono ?_); rintro e1 w6 ⟨rfl, hb⟩; have HX6 := Aside0.mk (HX5.out.drew.next hb); clear hb) | (go_at_call 52; (with_reducible refine (reals_exact_round.calls k4 false 0 r Q (!(SH == C0) || !(SL == D0)) p how M E er _ G12.out).mono ?_); rintro e1 w7 ⟨rfl, hb⟩; have HX7 := Aside0.mk (HX6.out.next hb); clear hb; obtain ⟨_, _, z0, z1, f0, f1⟩ := un_cells HX7.out.tail))
        all_goals go_wp2_with fail
        all_goals (have HX8 := Aside0.mk HX7.out.tail; clear HX7)
        all_goals exact bodyPost_ret (results_ct rfl _ _ _ 29 #[.int .i64 M, .int .i64 E] (0, 0) _ rfl (un_end HX8.out).1 Try.underlying29 rfl (by kernel_rfl)) rfl ⟨rfl, (un_end HX8.out).2⟩
  · obtain ⟨rfl, rfl, rfl⟩ := HC.out hc
    have hk : (er == 0) = false := by rw [beq_eq_false_iff_ne]; exact hc
    have hk2 : (er != 0) = true := by rw [bne_iff_ne]; exact hc
    clear hc
    go_wp2_with fail
    exact bodyPost_ret (results_ct rfl _ _ _ 29 #[.int .i64 0, .int .i64 0] (0, 0) _ rfl (un_end HX1.out).1 Try.underlying29 rfl (by kernel_rfl)) rfl ⟨rfl, (un_end HX1.out).2⟩
theorem w64r (n : Int) : IntKind.i64.wrap n = wrap64 n := by simp [IntKind.wrap, wrap64, IntKind.signed, IntKind.bits]; split <;> omega
theorem of_form {m e x2 x3 x4 : Int} {x1 x5 : Bool} (h : reals_of.f m e = some (x1, x2, x3, x4, x5)) : x4 = e ∧ x5 = false := by
  unfold reals_of.f at h
  obtain ⟨⟨H, L⟩, _, h⟩ := Option.bind_eq_some_iff.mp h
  simp only [Option.some.injEq, Prod.mk.injEq] at h
  exact ⟨h.2.2.2.1.symm, h.2.2.2.2.symm⟩
theorem add_j0 {k : Nat} {how p am ae bm be r1 r2 r3 : Int} (h : reals_Add.j0 k how p am ae bm be = some (r1, r2, r3)) : ∃ (k' : Nat) (xn : Bool) (H L : Int) (yn : Bool) (H2 L2 : Int) (zn : Bool) (P Q S : Int) (mo : Bool), reals_of.f am ae = some (xn, H, L, ae, false) ∧ reals_of.f bm be = some (yn, H2, L2, be, false) ∧ reals_sum.f xn H L ae false yn H2 L2 be false = some (zn, P, Q, S, mo) ∧ reals_exact_round.f k' zn P Q S mo p how = some (r1, r2, r3) := by
  cases k with
  | zero => simp only [reals_Add.j0] at h; cases h
  | succ k =>
    simp only [reals_Add.j0] at h
    obtain ⟨⟨x1, x2, x3, x4, x5⟩, g1, h⟩ := Option.bind_eq_some_iff.mp h
    obtain ⟨⟨y1, y2, y3, y4, y5⟩, g2, h⟩ := Option.bind_eq_some_iff.mp h
    dsimp only at h
    obtain ⟨rfl, rfl⟩ := of_form g1
    obtain ⟨rfl, rfl⟩ := of_form g2
    obtain ⟨⟨z1, z2, z3, z4, z5⟩, g3, h⟩ := Option.bind_eq_some_iff.mp h
    obtain ⟨⟨M, E, er⟩, g4, h⟩ := Option.bind_eq_some_iff.mp h
    simp only [Option.some.injEq, Prod.mk.injEq] at h
    obtain ⟨rfl, rfl, rfl⟩ := h
    exact ⟨k, x1, x2, x3, y1, y2, y3, z1, z2, z3, z4, z5, g1, g2, g3, g4⟩
theorem sqrt_j0 {k : Nat} {how p N2 m e H L r1 r2 r3 : Int} (h : reals_Sqrt.j0 k how p N2 m e H L = some (r1, r2, r3)) : ∃ (k' : Nat) (C0 D0 r SH SL : Int), reals_wide_scaled.f k' H L N2 = some (C0, D0) ∧ reals_wide_root.f k' C0 D0 = some r ∧ reals_square.f r = some (SH, SL) ∧ reals_exact_round.f k' false 0 r (wrap64 (Int.tdiv (wrap64 (e - N2)) 2)) (!(SH == C0) || !(SL == D0)) p how = some (r1, r2, r3) := by
  cases k with
  | zero => simp only [reals_Sqrt.j0] at h; cases h
  | succ k =>
    simp only [reals_Sqrt.j0] at h
    obtain ⟨⟨C0, D0⟩, g1, h⟩ := Option.bind_eq_some_iff.mp h
    obtain ⟨r, g2, h⟩ := Option.bind_eq_some_iff.mp h
    obtain ⟨⟨SH, SL⟩, g3, h⟩ := Option.bind_eq_some_iff.mp h
    obtain ⟨⟨M, E, er⟩, g4, h⟩ := Option.bind_eq_some_iff.mp h
    simp only [Option.some.injEq, Prod.mk.injEq] at h
    obtain ⟨rfl, rfl, rfl⟩ := h
    exact ⟨k, C0, D0, r, SH, SL, g1, g2, g3, g4⟩
set_option maxRecDepth 100000 in
theorem reals_Mul.calls (k : Nat) (a0 : Int) (a1 : Int) (a2_0 : Int) (a2_1 : Int) (a3_0 : Int) (a3_1 : Int) (r1 : Int) (r2 : Int) (r3 : Int) (w : World) (h : reals_Mul.f k a0 a1 a2_0 a2_1 a3_0 a3_1 = some (r1, r2, r3)) :
    Calls Try.prog 25 #[.int .i64 a0, .int .i64 a1, .agg #[.int .i64 a2_0, .int .i64 a2_1], .agg #[.int .i64 a3_0, .int .i64 a3_1]] w fun e w' => e = .returned (.tuple #[.agg #[.int .i64 r1, .int .i64 r2], .int .i64 r3]) ∧ Below w.heap.size w w' := by
  unfold reals_Mul.f at h
  obtain ⟨⟨p, c⟩, hck, h⟩ := Option.bind_eq_some_iff.mp h
  dsimp only at h
  by_cases hc : c = 0
  · rw [if_pos hc] at h
    obtain ⟨⟨H, L⟩, hm, h⟩ := Option.bind_eq_some_iff.mp h
    obtain ⟨⟨H2, L2⟩, hn, h⟩ := Option.bind_eq_some_iff.mp h
    obtain ⟨⟨P, Q⟩, ht, h⟩ := Option.bind_eq_some_iff.mp h
    obtain ⟨⟨M, E, er⟩, hr, h⟩ := Option.bind_eq_some_iff.mp h
    simp only [Option.some.injEq, Prod.mk.injEq] at h
    obtain ⟨rfl, rfl, rfl⟩ := h
    exact hmul_walk k k a0 a1 a2_0 a2_1 a3_0 a3_1 p c _ _ _ H L H2 L2 P Q _ w hck (fun h => absurd hc h) (fun _ => ⟨hm, hn, ht, w64r _, hr⟩)
  · rw [if_neg hc] at h
    simp only [Option.some.injEq, Prod.mk.injEq] at h
    obtain ⟨rfl, rfl, rfl⟩ := h
    exact hmul_walk k k a0 a1 a2_0 a2_1 a3_0 a3_1 p c 0 0 c 0 0 0 0 0 0 0 w hck (fun _ => ⟨rfl, rfl, rfl⟩) (fun h => absurd h hc)
set_option maxRecDepth 100000 in
theorem reals_Div.calls (k : Nat) (a0 : Int) (a1 : Int) (a2_0 : Int) (a2_1 : Int) (a3_0 : Int) (a3_1 : Int) (r1 : Int) (r2 : Int) (r3 : Int) (w : World) (h : reals_Div.f k a0 a1 a2_0 a2_1 a3_0 a3_1 = some (r1, r2, r3)) :
    Calls Try.prog 27 #[.int .i64 a0, .int .i64 a1, .agg #[.int .i64 a2_0, .int .i64 a2_1], .agg #[.int .i64 a3_0, .int .i64 a3_1]] w fun e w' => e = .returned (.tuple #[.agg #[.int .i64 r1, .int .i64 r2], .int .i64 r3]) ∧ Below w.heap.size w w' := by
  unfold reals_Div.f at h
  obtain ⟨⟨p, c⟩, hck, h⟩ := Option.bind_eq_some_iff.mp h
  dsimp only at h
  by_cases hc : c = 0
  · rw [if_pos hc] at h
    by_cases hn : a3_0 = 0
    · rw [if_pos hn] at h
      simp only [Option.some.injEq, Prod.mk.injEq] at h
      obtain ⟨rfl, rfl, rfl⟩ := h
      exact hdiv_walk k k k k a0 a1 a2_0 a2_1 a3_0 a3_1 p c 0 0 11 0 0 0 0 0 0 0 0 0 0 0 0 0 w hck (fun h => absurd hc h) (fun _ _ => ⟨rfl, rfl, rfl⟩) (fun _ h => absurd hn h)
    · rw [if_neg hn] at h
      obtain ⟨⟨H, L⟩, g1, h⟩ := Option.bind_eq_some_iff.mp h
      obtain ⟨t, g2, h⟩ := Option.bind_eq_some_iff.mp h
      obtain ⟨⟨C0, D0⟩, g3, h⟩ := Option.bind_eq_some_iff.mp h
      obtain ⟨⟨H2, L2⟩, g4, h⟩ := Option.bind_eq_some_iff.mp h
      obtain ⟨⟨Q0, Q1, RR⟩, g5, h⟩ := Option.bind_eq_some_iff.mp h
      obtain ⟨⟨M, E, er⟩, g6, h⟩ := Option.bind_eq_some_iff.mp h
      simp only [Option.some.injEq, Prod.mk.injEq] at h
      obtain ⟨rfl, rfl, rfl⟩ := h
      exact hdiv_walk k k k k a0 a1 a2_0 a2_1 a3_0 a3_1 p c _ _ _ H L t _ C0 D0 H2 L2 Q0 Q1 RR _ _ w hck (fun h => absurd hc h) (fun _ h => absurd h hn) (fun _ _ => ⟨g1, g2, w64r _, g3, g4, g5, w64r _, w64r _, g6⟩)
  · rw [if_neg hc] at h
    simp only [Option.some.injEq, Prod.mk.injEq] at h
    obtain ⟨rfl, rfl, rfl⟩ := h
    exact hdiv_walk k k k k a0 a1 a2_0 a2_1 a3_0 a3_1 p c 0 0 c 0 0 0 0 0 0 0 0 0 0 0 0 0 w hck (fun _ => ⟨rfl, rfl, rfl⟩) (fun h => absurd h hc) (fun h => absurd h hc)
set_option maxRecDepth 100000 in
theorem reals_Add.calls (k : Nat) (a0 : Int) (a1 : Int) (a2_0 : Int) (a2_1 : Int) (a3_0 : Int) (a3_1 : Int) (r1 : Int) (r2 : Int) (r3 : Int) (w : World) (h : reals_Add.f k a0 a1 a2_0 a2_1 a3_0 a3_1 = some (r1, r2, r3)) :
    Calls Try.prog 21 #[.int .i64 a0, .int .i64 a1, .agg #[.int .i64 a2_0, .int .i64 a2_1], .agg #[.int .i64 a3_0, .int .i64 a3_1]] w fun e w' => e = .returned (.tuple #[.agg #[.int .i64 r1, .int .i64 r2], .int .i64 r3]) ∧ Below w.heap.size w w' := by
  unfold reals_Add.f at h
  obtain ⟨⟨p, c⟩, hck, h⟩ := Option.bind_eq_some_iff.mp h
  dsimp only at h
  by_cases hc : c = 0
  · rw [if_pos hc] at h
    by_cases hm : a2_0 = 0
    · rw [if_pos hm] at h
      simp only [Option.some.injEq, Prod.mk.injEq] at h
      obtain ⟨rfl, rfl, rfl⟩ := h
      by_cases hef : a2_1 < a3_1
      · exact hadd_walk k k a0 a1 a2_0 a2_1 a3_0 a3_1 p c _ _ 0 a3_0 a3_1 a2_0 a2_1 0 0 0 0 0 0 0 false false false false w hck (fun h => absurd hc h) (fun _ _ => ⟨rfl, rfl, rfl⟩) (fun _ h => absurd hm h) (fun _ => ⟨rfl, rfl, rfl, rfl⟩) (fun h => absurd hef h) (fun _ h => absurd hm h)
      · exact hadd_walk k k a0 a1 a2_0 a2_1 a3_0 a3_1 p c _ _ 0 a2_0 a2_1 a3_0 a3_1 0 0 0 0 0 0 0 false false false false w hck (fun h => absurd hc h) (fun _ _ => ⟨rfl, rfl, rfl⟩) (fun _ h => absurd hm h) (fun h => absurd h hef) (fun _ => ⟨rfl, rfl, rfl, rfl⟩) (fun _ h => absurd hm h)
    · rw [if_neg hm] at h
      by_cases hn : a3_0 = 0
      · rw [if_pos hn] at h
        simp only [Option.some.injEq, Prod.mk.injEq] at h
        obtain ⟨rfl, rfl, rfl⟩ := h
        by_cases hef : a2_1 < a3_1
        · exact hadd_walk k k a0 a1 a2_0 a2_1 a3_0 a3_1 p c _ _ 0 a3_0 a3_1 a2_0 a2_1 0 0 0 0 0 0 0 false false false false w hck (fun h => absurd hc h) (fun _ h => absurd h hm) (fun _ _ _ => ⟨rfl, rfl, rfl⟩) (fun _ => ⟨rfl, rfl, rfl, rfl⟩) (fun h => absurd hef h) (fun _ _ h => absurd hn h)
        · exact hadd_walk k k a0 a1 a2_0 a2_1 a3_0 a3_1 p c _ _ 0 a2_0 a2_1 a3_0 a3_1 0 0 0 0 0 0 0 false false false false w hck (fun h => absurd hc h) (fun _ h => absurd h hm) (fun _ _ _ => ⟨rfl, rfl, rfl⟩) (fun h => absurd h hef) (fun _ => ⟨rfl, rfl, rfl, rfl⟩) (fun _ _ h => absurd hn h)
      · rw [if_neg hn] at h
        by_cases hef : a2_1 < a3_1
        · rw [if_pos hef] at h
          obtain ⟨k', xn, H, L, yn, H2, L2, zn, P, Q, S, mo, g1, g2, g3, g4⟩ := add_j0 h
          exact hadd_walk k k' a0 a1 a2_0 a2_1 a3_0 a3_1 p c r1 r2 r3 a3_0 a3_1 a2_0 a2_1 H L H2 L2 P Q S xn yn zn mo w hck (fun h => absurd hc h) (fun _ h => absurd h hm) (fun _ _ h => absurd h hn) (fun _ => ⟨rfl, rfl, rfl, rfl⟩) (fun h => absurd hef h) (fun _ _ _ => ⟨g1, g2, g3, g4⟩)
        · rw [if_neg hef] at h
          obtain ⟨k', xn, H, L, yn, H2, L2, zn, P, Q, S, mo, g1, g2, g3, g4⟩ := add_j0 h
          exact hadd_walk k k' a0 a1 a2_0 a2_1 a3_0 a3_1 p c r1 r2 r3 a2_0 a2_1 a3_0 a3_1 H L H2 L2 P Q S xn yn zn mo w hck (fun h => absurd hc h) (fun _ h => absurd h hm) (fun _ _ h => absurd h hn) (fun h => absurd h hef) (fun _ => ⟨rfl, rfl, rfl, rfl⟩) (fun _ _ _ => ⟨g1, g2, g3, g4⟩)
  · rw [if_neg hc] at h
    simp only [Option.some.injEq, Prod.mk.injEq] at h
    obtain ⟨rfl, rfl, rfl⟩ := h
    by_cases hef : a2_1 < a3_1
    · exact hadd_walk k k a0 a1 a2_0 a2_1 a3_0 a3_1 p c 0 0 c a3_0 a3_1 a2_0 a2_1 0 0 0 0 0 0 0 false false false false w hck (fun _ => ⟨rfl, rfl, rfl⟩) (fun h => absurd h hc) (fun h => absurd h hc) (fun _ => ⟨rfl, rfl, rfl, rfl⟩) (fun h => absurd hef h) (fun h => absurd h hc)
    · exact hadd_walk k k a0 a1 a2_0 a2_1 a3_0 a3_1 p c 0 0 c a2_0 a2_1 a3_0 a3_1 0 0 0 0 0 0 0 false false false false w hck (fun _ => ⟨rfl, rfl, rfl⟩) (fun h => absurd h hc) (fun h => absurd h hc) (fun h => absurd h hef) (fun _ => ⟨rfl, rfl, rfl, rfl⟩) (fun h => absurd h hc)
set_option maxRecDepth 100000 in
theorem reals_Sqrt.calls (k : Nat) (a0 : Int) (a1 : Int) (a2_0 : Int) (a2_1 : Int) (r1 : Int) (r2 : Int) (r3 : Int) (w : World) (h : reals_Sqrt.f k a0 a1 a2_0 a2_1 = some (r1, r2, r3)) :
    Calls Try.prog 29 #[.int .i64 a0, .int .i64 a1, .agg #[.int .i64 a2_0, .int .i64 a2_1]] w fun e w' => e = .returned (.tuple #[.agg #[.int .i64 r1, .int .i64 r2], .int .i64 r3]) ∧ Below w.heap.size w w' := by
  unfold reals_Sqrt.f at h
  obtain ⟨⟨p, c⟩, hck, h⟩ := Option.bind_eq_some_iff.mp h
  dsimp only at h
  by_cases hc : c = 0
  · rw [if_pos hc] at h
    by_cases hn : a2_0 < 0
    · rw [if_pos hn] at h
      simp only [Option.some.injEq, Prod.mk.injEq] at h
      obtain ⟨rfl, rfl, rfl⟩ := h
      exact hsqrt_walk k k k k a0 a1 a2_0 a2_1 p c 0 0 11 0 0 0 0 0 0 0 0 0 0 0 0 0 w hck (fun h => absurd hc h) (fun _ _ => ⟨rfl, rfl, rfl⟩) (fun _ h => absurd hn h)
    · rw [if_neg hn] at h
      obtain ⟨⟨H, L⟩, g1, h⟩ := Option.bind_eq_some_iff.mp h
      obtain ⟨t, g2, h⟩ := Option.bind_eq_some_iff.mp h
      dsimp only at h
      by_cases ht : Int.tmod (wrap64 (a2_1 - (wrap64 (38 - t)))) 2 = 0
      · rw [if_pos ht] at h
        obtain ⟨k', C0, D0, r, SH, SL, g3, g4, g5, g6⟩ := sqrt_j0 h
        exact hsqrt_walk k k' k' k' a0 a1 a2_0 a2_1 p c r1 r2 r3 H L t _ _ _ C0 D0 r SH SL _ _ w hck (fun h => absurd hc h) (fun _ h => absurd h hn) (fun _ _ => ⟨g1, g2, w64r _, w64r _, fun _ => rfl, fun h => absurd ht h, g3, g4, g5, w64r _, w64r _, g6⟩)
      · rw [if_neg ht] at h
        obtain ⟨k', C0, D0, r, SH, SL, g3, g4, g5, g6⟩ := sqrt_j0 h
        exact hsqrt_walk k k' k' k' a0 a1 a2_0 a2_1 p c r1 r2 r3 H L t _ _ _ C0 D0 r SH SL _ _ w hck (fun h => absurd hc h) (fun _ h => absurd h hn) (fun _ _ => ⟨g1, g2, w64r _, w64r _, fun h => absurd h ht, fun _ => w64r _, g3, g4, g5, w64r _, w64r _, g6⟩)
  · rw [if_neg hc] at h
    simp only [Option.some.injEq, Prod.mk.injEq] at h
    obtain ⟨rfl, rfl, rfl⟩ := h
    exact hsqrt_walk k k k k a0 a1 a2_0 a2_1 p c 0 0 c 0 0 0 0 0 0 0 0 0 0 0 0 0 w hck (fun _ => ⟨rfl, rfl, rfl⟩) (fun h => absurd h hc) (fun h => absurd h hc)
end Go.Proofs.Ytamkjpjibkabaaa.PR
