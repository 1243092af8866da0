/- Small plain facts: when a number does not wrap, what a chain of tests comes to, what makes a task right. No condition. -/
import Derived.RowKit
import Derived.Laws.BitsLemmas
import Derived.Test.YtlneecichgimpaaWd
set_option linter.unusedVariables false
set_option linter.unusedSimpArgs false
namespace Go.Proofs.Ytlneecichgimpaa.Base
open Go.RowKit Go.Proofs.YtlneecichgimpaaW.PrintWords Go.Proofs.YtlneecichgimpaaW.PrintLast Go.Proofs.YtlneecichgimpaaW.PrintMore
theorem wr (x : Int) (h0 : -9223372036854775808 ≤ x) (h1 : x < 9223372036854775808) : wrap64 x = x := by unfold wrap64; omega
theorem evPos {α : Type} {c : Prop} [Decidable c] {f g : Nat → Option α} {r : α} (h : c) (e : Ev f r) : Ev (fun n => if c then f n else g n) r := Ev.congr (fun _ => if_pos h) e
theorem evNeg {α : Type} {c : Prop} [Decidable c] {f g : Nat → Option α} {r : α} (h : ¬ c) (e : Ev g r) : Ev (fun n => if c then f n else g n) r := Ev.congr (fun _ => if_neg h) e
theorem evEq {α : Type} {f : Nat → Option α} {r : α} (o : Option α) (h : ∀ k, f k = o) (e : o = some r) : Ev f r := ⟨0, fun k _ => (h k).trans e⟩
/-! A chain of ifs over decided things is one decision. -/
theorem dFalse : (some false : Option Bool) = some (decide False) := rfl
theorem dTrue : (some true : Option Bool) = some (decide True) := rfl
theorem dIte (c p q : Prop) [Decidable c] [Decidable p] [Decidable q] : (if c then some (decide p) else some (decide q)) = some (decide ((c ∧ p) ∨ (¬ c ∧ q))) := by
  by_cases c <;> simp [*]
theorem dBeq (a b : Int) : (a == b) = decide (a = b) := by by_cases h : a = b <;> simp [h]
theorem dBne (a b : Int) : (a != b) = decide (¬ a = b) := by by_cases h : a = b <;> simp [h]
theorem dAnd (p q : Prop) [Decidable p] [Decidable q] : (decide p && decide q) = decide (p ∧ q) := by by_cases p <;> by_cases q <;> simp [*]
theorem dNot (p : Prop) [Decidable p] : (!decide p) = decide (¬ p) := by by_cases p <;> simp [*]
def ShareP (q p : Int) : Prop := (1 ≤ p ∧ p ≤ 40) ∧ 1 ≤ q ∧ q ≤ p
instance (q p : Int) : Decidable (ShareP q p) := by unfold ShareP; infer_instance
/-- What makes a task right. -/
def TaskP (a0 a1 a2 a3 a5 a6 a7 a8 a9 a10 a11 a12 a13 : Int) : Prop :=
  (1 ≤ a0 ∧ a0 ≤ 1000) ∧ (0 ≤ a2 ∧ a2 ≤ 3) ∧ (1 ≤ a3 ∧ a3 ≤ 2) ∧
  ((a1 = 1 ∧ a9 = 0 ∧ a10 = 0 ∧ a11 = 0 ∧ a12 = 0 ∧ a13 = 0 ∧ (1 ≤ a6 ∧ a6 ≤ 40) ∧ (1 ≤ a5 ∧ a5 ≤ a6) ∧ (0 ≤ a7 ∧ a7 ≤ a5) ∧ (0 ≤ a8 ∧ a8 ≤ 100040)) ∨
   (a1 = 2 ∧ a5 = 0 ∧ a6 = 0 ∧ a8 = 0 ∧ a12 = 0 ∧ a13 = 0 ∧ (1 ≤ a9 ∧ a9 ≤ 20) ∧ (0 ≤ a10 ∧ a10 ≤ 10) ∧ ((1 ≤ a7 ∨ a10 ≤ a7) ∧ a7 ≤ a10) ∧ (0 ≤ a11 ∧ a11 ≤ 1000000)) ∨
   (a1 = 3 ∧ a5 = 0 ∧ a6 = 0 ∧ a8 = 0 ∧ a7 = 0 ∧ a9 = 0 ∧ a10 = 0 ∧ a11 = 0 ∧ (-4 ≤ a12 ∧ a12 ≤ 4) ∧ (0 ≤ a13 ∧ a13 ≤ 100000000)))
instance (a0 a1 a2 a3 a5 a6 a7 a8 a9 a10 a11 a12 a13 : Int) : Decidable (TaskP a0 a1 a2 a3 a5 a6 a7 a8 a9 a10 a11 a12 a13) := by unfold TaskP; infer_instance
def CleanP (a1 a5 a6 a7 a8 a9 a10 a11 a12 a13 : Int) : Prop :=
  (a1 = 1 ∧ (a9 = 0 ∧ a10 = 0 ∧ a11 = 0) ∧ a12 = 0 ∧ a13 = 0) ∨ (a1 = 2 ∧ (a5 = 0 ∧ a6 = 0 ∧ a8 = 0) ∧ a12 = 0 ∧ a13 = 0) ∨ (¬ a1 = 1 ∧ ¬ a1 = 2 ∧ (a5 = 0 ∧ a6 = 0 ∧ a8 = 0) ∧ (a9 = 0 ∧ a10 = 0 ∧ a11 = 0) ∧ a7 = 0)
instance (a1 a5 a6 a7 a8 a9 a10 a11 a12 a13 : Int) : Decidable (CleanP a1 a5 a6 a7 a8 a9 a10 a11 a12 a13) := by unfold CleanP; infer_instance
/-! Cells and marks of a block, laid at once. -/
abbrev tk14 (a0 a1 a2 a3 : Int) (a4 : Bool) (a5 a6 a7 a8 a9 a10 a11 a12 a13 : Int) : Array Value := #[.int .i64 a0, .int .i64 a1, .int .i64 a2, .int .i64 a3, .bool a4, .int .i64 a5, .int .i64 a6, .int .i64 a7, .int .i64 a8, .int .i64 a9, .int .i64 a10, .int .i64 a11, .int .i64 a12, .int .i64 a13]
theorem cz2 {w : World} {g : Nat} {t : TypeId} {v0 v1 : Value} (h : w.heap[g]? = some (.cells #[v0, v1] t (0, 0))) : w.cell? ⟨g, 0, none⟩ = some v0 ∧ w.cell? ⟨g, 1, none⟩ = some v1 := ⟨(blk_cell h 0).trans rfl, (blk_cell h 1).trans rfl⟩
theorem cz14 {w : World} {g : Nat} {t : TypeId} {v0 v1 v2 v3 v4 v5 v6 v7 v8 v9 v10 v11 v12 v13 : Value} (h : w.heap[g]? = some (.cells #[v0, v1, v2, v3, v4, v5, v6, v7, v8, v9, v10, v11, v12, v13] t (0, 0))) : w.cell? ⟨g, 0, none⟩ = some v0 ∧ w.cell? ⟨g, 1, none⟩ = some v1 ∧ w.cell? ⟨g, 2, none⟩ = some v2 ∧ w.cell? ⟨g, 3, none⟩ = some v3 ∧ w.cell? ⟨g, 4, none⟩ = some v4 ∧ w.cell? ⟨g, 5, none⟩ = some v5 ∧ w.cell? ⟨g, 6, none⟩ = some v6 ∧ w.cell? ⟨g, 7, none⟩ = some v7 ∧ w.cell? ⟨g, 8, none⟩ = some v8 ∧ w.cell? ⟨g, 9, none⟩ = some v9 ∧ w.cell? ⟨g, 10, none⟩ = some v10 ∧ w.cell? ⟨g, 11, none⟩ = some v11 ∧ w.cell? ⟨g, 12, none⟩ = some v12 ∧ w.cell? ⟨g, 13, none⟩ = some v13 := ⟨(blk_cell h 0).trans rfl, (blk_cell h 1).trans rfl, (blk_cell h 2).trans rfl, (blk_cell h 3).trans rfl, (blk_cell h 4).trans rfl, (blk_cell h 5).trans rfl, (blk_cell h 6).trans rfl, (blk_cell h 7).trans rfl, (blk_cell h 8).trans rfl, (blk_cell h 9).trans rfl, (blk_cell h 10).trans rfl, (blk_cell h 11).trans rfl, (blk_cell h 12).trans rfl, (blk_cell h 13).trans rfl⟩
abbrev yy : Bool := true
abbrev nn : Bool := false
theorem bkD {w : World} {g : Nat} {o : Obj} (h : w.heap[g]? = some o) (n : Nat) : (w.drewN n).heap[g]? = some o := blk_drewN h n
theorem bkd {w : World} {g : Nat} {o : Obj} (h : w.heap[g]? = some o) : w.drew.heap[g]? = some o := blk_drew h
theorem bkA {w : World} {g : Nat} {o : Obj} (h : w.heap[g]? = some o) (o' : Obj) : (w.alloc o').heap[g]? = some o := blk_alloc h o'
theorem beA {w W : World} (h : Below w.heap.size w W) (o : Obj) : Below w.heap.size w (W.alloc o) := below_alloc h o
theorem beD {B : Nat} {w W : World} (h : Below B w W) (n : Nat) : Below B w (W.drewN n) := pw_below_drewN h n
theorem bed {base : Nat} {w W : World} (h : Below base w W) : Below base w W.drew := below_drew1 h
theorem beS {w W : World} {g j : Nat} {v : Value} (h : Below w.heap.size w W) (hg : w.heap.size ≤ g) : Below w.heap.size w (W.setCell ⟨g, j, none⟩ v) := below_set h hg
theorem aM {p : Prop} (h : p) : Aside0 p := ⟨h⟩
abbrev cb14 (w : World) (g : Nat) (v0 v1 v2 v3 v4 v5 v6 v7 v8 v9 v10 v11 v12 v13 : Value) : Prop := w.cell? ⟨g, 0, none⟩ = some v0 ∧ w.cell? ⟨g, 1, none⟩ = some v1 ∧ w.cell? ⟨g, 2, none⟩ = some v2 ∧ w.cell? ⟨g, 3, none⟩ = some v3 ∧ w.cell? ⟨g, 4, none⟩ = some v4 ∧ w.cell? ⟨g, 5, none⟩ = some v5 ∧ w.cell? ⟨g, 6, none⟩ = some v6 ∧ w.cell? ⟨g, 7, none⟩ = some v7 ∧ w.cell? ⟨g, 8, none⟩ = some v8 ∧ w.cell? ⟨g, 9, none⟩ = some v9 ∧ w.cell? ⟨g, 10, none⟩ = some v10 ∧ w.cell? ⟨g, 11, none⟩ = some v11 ∧ w.cell? ⟨g, 12, none⟩ = some v12 ∧ w.cell? ⟨g, 13, none⟩ = some v13
abbrev cb14t (w : World) (g : Nat) (v0 v1 v2 v3 v4 v5 v6 v7 v8 v9 v10 v11 v12 v13 : Value) (r : Prop) : Prop := w.cell? ⟨g, 0, none⟩ = some v0 ∧ w.cell? ⟨g, 1, none⟩ = some v1 ∧ w.cell? ⟨g, 2, none⟩ = some v2 ∧ w.cell? ⟨g, 3, none⟩ = some v3 ∧ w.cell? ⟨g, 4, none⟩ = some v4 ∧ w.cell? ⟨g, 5, none⟩ = some v5 ∧ w.cell? ⟨g, 6, none⟩ = some v6 ∧ w.cell? ⟨g, 7, none⟩ = some v7 ∧ w.cell? ⟨g, 8, none⟩ = some v8 ∧ w.cell? ⟨g, 9, none⟩ = some v9 ∧ w.cell? ⟨g, 10, none⟩ = some v10 ∧ w.cell? ⟨g, 11, none⟩ = some v11 ∧ w.cell? ⟨g, 12, none⟩ = some v12 ∧ w.cell? ⟨g, 13, none⟩ = some v13 ∧ r
theorem fa14 {w : World} {b g j : Nat} {u v0 v1 v2 v3 v4 v5 v6 v7 v8 v9 v10 v11 v12 v13 : Value} (hne : b ≠ g) (h : cb14 w b v0 v1 v2 v3 v4 v5 v6 v7 v8 v9 v10 v11 v12 v13) : cb14 (w.setCell ⟨g, j, none⟩ u) b v0 v1 v2 v3 v4 v5 v6 v7 v8 v9 v10 v11 v12 v13 :=
  have c : ∀ i, (w.setCell ⟨g, j, none⟩ u).cell? ⟨b, i, none⟩ = w.cell? ⟨b, i, none⟩ := fun i => cell_far (p := ⟨g, j, none⟩) hne u
  ⟨(c 0).trans h.1, (c 1).trans h.2.1, (c 2).trans h.2.2.1, (c 3).trans h.2.2.2.1, (c 4).trans h.2.2.2.2.1, (c 5).trans h.2.2.2.2.2.1, (c 6).trans h.2.2.2.2.2.2.1, (c 7).trans h.2.2.2.2.2.2.2.1, (c 8).trans h.2.2.2.2.2.2.2.2.1, (c 9).trans h.2.2.2.2.2.2.2.2.2.1, (c 10).trans h.2.2.2.2.2.2.2.2.2.2.1, (c 11).trans h.2.2.2.2.2.2.2.2.2.2.2.1, (c 12).trans h.2.2.2.2.2.2.2.2.2.2.2.2.1, (c 13).trans h.2.2.2.2.2.2.2.2.2.2.2.2.2⟩
universe u
theorem tA {α : Type u} {xs : List α} {i : Nat} {a : α} : xs.toArray.setIfInBounds i a = (xs.set i a).toArray := List.setIfInBounds_toArray xs i a
theorem tB {α : Type u} {x : α} {xs : List α} {a : α} : (x :: xs).set 0 a = a :: xs := List.set_cons_zero
theorem tC {α : Type u} {x : α} {xs : List α} {i : Nat} {a : α} : (x :: xs).set (i + 1) a = x :: xs.set i a := List.set_cons_succ
/-! Fourteen stores at once; steps of a walk whose small goals are met by the same few words everywhere. -/
theorem put14 {w : World} {g : Nat} {t : TypeId} {o0 o1 o2 o3 o4 o5 o6 o7 o8 o9 o10 o11 o12 o13 n0 n1 n2 n3 n4 n5 n6 n7 n8 n9 n10 n11 n12 n13 : Value} {cs cs' : Array Value} (h : w.heap[g]? = some (.cells cs t (0, 0))) (hs : cs = #[o0, o1, o2, o3, o4, o5, o6, o7, o8, o9, o10, o11, o12, o13] := by rfl) (e : #[n0, n1, n2, n3, n4, n5, n6, n7, n8, n9, n10, n11, n12, n13] = cs' := by rfl) : ((((((((((((((w.setCell ⟨g, 0, none⟩ n0).setCell ⟨g, 1, none⟩ n1).setCell ⟨g, 2, none⟩ n2).setCell ⟨g, 3, none⟩ n3).setCell ⟨g, 4, none⟩ n4).setCell ⟨g, 5, none⟩ n5).setCell ⟨g, 6, none⟩ n6).setCell ⟨g, 7, none⟩ n7).setCell ⟨g, 8, none⟩ n8).setCell ⟨g, 9, none⟩ n9).setCell ⟨g, 10, none⟩ n10).setCell ⟨g, 11, none⟩ n11).setCell ⟨g, 12, none⟩ n12).setCell ⟨g, 13, none⟩ n13).heap[g]? = some (.cells cs' t (0, 0)) := by
  subst e
  subst hs
  refine blk_put (cs := #[n0, n1, n2, n3, n4, n5, n6, n7, n8, n9, n10, n11, n12, o13]) ?_ 13 _ rfl
  refine blk_put (cs := #[n0, n1, n2, n3, n4, n5, n6, n7, n8, n9, n10, n11, o12, o13]) ?_ 12 _ rfl
  refine blk_put (cs := #[n0, n1, n2, n3, n4, n5, n6, n7, n8, n9, n10, o11, o12, o13]) ?_ 11 _ rfl
  refine blk_put (cs := #[n0, n1, n2, n3, n4, n5, n6, n7, n8, n9, o10, o11, o12, o13]) ?_ 10 _ rfl
  refine blk_put (cs := #[n0, n1, n2, n3, n4, n5, n6, n7, n8, o9, o10, o11, o12, o13]) ?_ 9 _ rfl
  refine blk_put (cs := #[n0, n1, n2, n3, n4, n5, n6, n7, o8, o9, o10, o11, o12, o13]) ?_ 8 _ rfl
  refine blk_put (cs := #[n0, n1, n2, n3, n4, n5, n6, o7, o8, o9, o10, o11, o12, o13]) ?_ 7 _ rfl
  refine blk_put (cs := #[n0, n1, n2, n3, n4, n5, o6, o7, o8, o9, o10, o11, o12, o13]) ?_ 6 _ rfl
  refine blk_put (cs := #[n0, n1, n2, n3, n4, o5, o6, o7, o8, o9, o10, o11, o12, o13]) ?_ 5 _ rfl
  refine blk_put (cs := #[n0, n1, n2, n3, o4, o5, o6, o7, o8, o9, o10, o11, o12, o13]) ?_ 4 _ rfl
  refine blk_put (cs := #[n0, n1, n2, o3, o4, o5, o6, o7, o8, o9, o10, o11, o12, o13]) ?_ 3 _ rfl
  refine blk_put (cs := #[n0, n1, o2, o3, o4, o5, o6, o7, o8, o9, o10, o11, o12, o13]) ?_ 2 _ rfl
  refine blk_put (cs := #[n0, o1, o2, o3, o4, o5, o6, o7, o8, o9, o10, o11, o12, o13]) ?_ 1 _ rfl
  refine blk_put (cs := #[o0, o1, o2, o3, o4, o5, o6, o7, o8, o9, o10, o11, o12, o13]) ?_ 0 _ rfl
  exact h
theorem far14 {w : World} {g q : Nat} {t : TypeId} {cs : Array Value} {n0 n1 n2 n3 n4 n5 n6 n7 n8 n9 n10 n11 n12 n13 : Value} (h : w.heap[g]? = some (.cells cs t (0, 0))) (hne : g ≠ q) : ((((((((((((((w.setCell ⟨q, 0, none⟩ n0).setCell ⟨q, 1, none⟩ n1).setCell ⟨q, 2, none⟩ n2).setCell ⟨q, 3, none⟩ n3).setCell ⟨q, 4, none⟩ n4).setCell ⟨q, 5, none⟩ n5).setCell ⟨q, 6, none⟩ n6).setCell ⟨q, 7, none⟩ n7).setCell ⟨q, 8, none⟩ n8).setCell ⟨q, 9, none⟩ n9).setCell ⟨q, 10, none⟩ n10).setCell ⟨q, 11, none⟩ n11).setCell ⟨q, 12, none⟩ n12).setCell ⟨q, 13, none⟩ n13).heap[g]? = some (.cells cs t (0, 0)) := by
  iterate 14 refine blk_far (p := ⟨q, _, none⟩) ?_ hne _
  exact h
theorem bq {p q : Prop} (h : Aside0 p) (f : p → q := by intro b_; repeat (first | (with_reducible first | exact b_ | apply beA | apply beD | apply bed | refine beS ?_ (Aside0.out (by assumption))) | exact b_)) : q := f h.out
theorem bqs {p q r : Prop} (h : Aside0 p) (x : r) (f : p → r → q := by intro b_ x_; repeat (first | (with_reducible first | exact b_ | apply beA | apply beD | apply bed | refine beS ?_ x_ | refine beS ?_ (Aside0.out (by assumption))) | exact b_)) : q := f h.out x
theorem kq {p q : Prop} (h : Aside0 p) (f : p → q := by intro b_; (with_reducible repeat (first | apply bkD | apply bkd | apply bkA)); exact b_) : q := f h.out
theorem rq {p q : Prop} (h : Aside0 p) (f : p → q := by intro b_; (with_reducible repeat (first | apply Kd.R_alloc | apply Kd.R_drewN | apply Kd.R_drew)); exact b_) : q := f h.out
theorem gL {P : Program} {ops : Array Oper} {Q : Exit → Act → World → Prop} {rest : List Oper} {oi : Oper} {a : Act} {w : World} (N : Option Tmp) {f : FuncId} {fn : Func} {as : Array Operand} {ts : Array TypeId} (hf : P.funcs[f]? = some fn) (args : Array Value)
    (h : Calls P f args w fun e w' => ∃ v, e = .returned v ∧ wpList P ops Q rest (a.put N v) w') (hd : oi.dst = N := by rfl) (hg : oi.guard = none := by rfl) (hname : (fn.name == "runtime.NumGoroutine") = false := by kernel_rfl) (hb : fn.body.isSome = true := by rfl)
    (hop : oi.op = .call { callee := .value (.func f), args := as, argTypes := ts } := by rfl) (hargs : as.map a.eval = args := by (try simp only [List.map_toArray, List.map_cons, List.map_nil]); first | done | rfl | (simp only [List.length_drop, List.length_take]; rfl)) : wpList P ops Q (oi :: rest) a w := goesL_ N hd hg hf hname hb args hop hargs h
theorem pQ {P : Program} {ops : Array Oper} {Q : Exit → Act → World → Prop} {md : Region.Mode} {S : World → Prop} {ds : List Nat} {i : Nat} {N : Option Tmp} {oi : Oper} {v : Value} {fuel : Nat} {l : Array Bool} {a : Act} {w : World} (l' : Array Bool) (hc : anyB md ops l l' i = true) {a' : Act}
    (h : wpAnyLast P md ops Q S ds fuel l' a' w) (hi : ops[i]? = some oi := by rfl) (hN : oi.dst = N := by rfl) (hQ : ∀ c a w, Q (.panic c) (a.put oi.dst v) w → Q (.panic c) a w := by exact fun _ _ _ h => h) (hw : Region.wanted oi (yielded ops a.tmps) = true := by rfl)
    (hy : ∀ w', (execOp a.eval oi).run P w' = .ok (.value v) w' := by intro w'; go_simp; with_reducible rfl) (ha : a.put N v = a' := by simp only [Act.put, tA, tB, tC, i64_w, i32_w]; rfl) : wpAnyLast P md ops Q S ds (fuel + 1) l a w := pure_ l' hi hN hc hQ (.inl ⟨hw, hy⟩) ha h
theorem tQ {P : Program} {ops : Array Oper} {Q : Exit → Act → World → Prop} {md : Region.Mode} {S : World → Prop} {ds : List Nat} {i : Nat} {N : Option Tmp} {oi : Oper} {v : Value} {fuel : Nat} {l : Array Bool} {a : Act} {w : World} (l' : Array Bool) (hc : takeB md ops ds l l' i = true) (hS : S w) {a' : Act}
    (h : wpAnyLast P md ops Q S ds fuel l' a' w) (hi : ops[i]? = some oi := by rfl) (hN : oi.dst = N := by rfl) (hQ : ∀ c a w, Q (.panic c) (a.put oi.dst v) w → Q (.panic c) a w := by exact fun _ _ _ h => h) (hw : Region.wanted oi (yielded ops a.tmps) = true := by rfl)
    (hy : ∀ w', S w' → (execOp a.eval oi).run P w' = .ok (.value v) w' := by intro w' s_; (repeat obtain ⟨_, s_⟩ := s_); go_simp; with_reducible rfl) (ha : a.put N v = a' := by simp only [Act.put, tA, tB, tC, i64_w, i32_w]; rfl) : wpAnyLast P md ops Q S ds (fuel + 1) l a w := take_ l' hi hN hc hQ (.inl ⟨hw, hy⟩) hS ha h
theorem nQ {P : Program} {ops : Array Oper} {Q : Exit → Act → World → Prop} {md : Region.Mode} {S : World → Prop} {ds : List Nat} {N : Option Tmp} {v : Value} {fuel : Nat} {l : Array Bool} {b a' : Act} {w : World} (h : wpAnyLast P md ops Q S ds fuel l a' w) (ha : b.put N v = a' := by simp only [Act.put, tA, tB, tC, i64_w, i32_w]; rfl) : wpAnyLast P md ops Q S ds fuel l (b.put N v) w := norm_ ha h
theorem cq {p q : Prop} (h : p) (f : p → q := by intro b_; repeat (first | exact b_ | (with_reducible refine Kd.C_alloc ?_ _) | (with_reducible refine Kd.C_drewN ?_ _) | (with_reducible refine Kd.C_drew ?_))) : q := f h
theorem kk {w W V : World} {g : Nat} {row : Option Nat} (h : Aside0 (KeepBut w W g row)) (f : KeepBut w W g row → KeepBut w V g row := by intro b_; repeat (first | (with_reducible first | exact b_ | apply KeepBut.set_ | apply keep_drewN | apply keep_drew | apply keep_alloc | refine keep_far ?_ (Aside0.out (by assumption)) _) | exact b_)) : KeepBut w V g row := f h.out
theorem dA {p : Prop} [d : Decidable p] (h : decide p = true := by first | (with_reducible assumption) | assumption) : p := of_decide_eq_true h
theorem dW {α : Type} {x : α} {w : World} {a b : Nat} : x = x ∧ ∃ n, (w.drewN a).drewN b = w.drewN n := ⟨rfl, _, World.drewN_drewN _ _ _⟩
theorem dX {α : Type} {x : α} {w : World} {a b c : Nat} : x = x ∧ ∃ n, ((w.drewN a).drewN b).drewN c = w.drewN n := ⟨rfl, _, Eq.trans (World.drewN_drewN _ _ _) (by rw [World.drewN_drewN])⟩
theorem dq {q : Prop} (f : q := by repeat (first | exact Drawn0.refl _ | apply Drawn0.step)) : q := f
theorem sQ {q : Prop} (f : q := by first | rfl | (simp; done) | (simp [*]; done)) : q := f
theorem sR {q : Prop} (f : q := by first | rfl | (simp <;> rfl) | (simp [*] <;> rfl)) : q := f
theorem bE {P : Program} {ops : Array Oper} {rest : List Oper} {o : Oper} {a : Act} {Q : Exit → Act → World → Prop} {W : World} {N : Tmp} {cs : Array Value} {t : TypeId} (h : ∀ g, g = W.heap.size → ∀ w1, w1.heap[g]? = some (.cells cs t (0, 0)) → Below W.heap.size W w1 → wpList P ops Q rest (a.put o.dst (.pointer (some ⟨g, 0, none⟩))) w1) (hgd : o.guard = none := by rfl) (hd : o.dst = some N := by rfl) (hr : (execOp a.eval o).run P W = .ok (.value (.pointer (some ⟨W.heap.size, 0, none⟩))) (W.alloc (.cells cs t (0, 0))) := by first | (go_simp; done) | (go_simp; rfl)) : wpList P ops Q (o :: rest) a W := box_event hgd hd hr h
theorem cbT {w : World} {g : Nat} {t : TypeId} {v0 v1 v2 v3 v4 v5 v6 v7 v8 v9 v10 v11 v12 v13 : Value} {r : Prop} (h : Aside0 (w.heap[g]? = some (.cells #[v0, v1, v2, v3, v4, v5, v6, v7, v8, v9, v10, v11, v12, v13] t (0, 0)))) (x : r) : cb14t w g v0 v1 v2 v3 v4 v5 v6 v7 v8 v9 v10 v11 v12 v13 r := ⟨(blk_cell h.out 0).trans rfl, (blk_cell h.out 1).trans rfl, (blk_cell h.out 2).trans rfl, (blk_cell h.out 3).trans rfl, (blk_cell h.out 4).trans rfl, (blk_cell h.out 5).trans rfl, (blk_cell h.out 6).trans rfl, (blk_cell h.out 7).trans rfl, (blk_cell h.out 8).trans rfl, (blk_cell h.out 9).trans rfl, (blk_cell h.out 10).trans rfl, (blk_cell h.out 11).trans rfl, (blk_cell h.out 12).trans rfl, (blk_cell h.out 13).trans rfl, x⟩
theorem cbE {w : World} {g : Nat} {t : TypeId} {v0 v1 v2 v3 v4 v5 v6 v7 v8 v9 v10 v11 v12 v13 : Value} (h : Aside0 (w.heap[g]? = some (.cells #[v0, v1, v2, v3, v4, v5, v6, v7, v8, v9, v10, v11, v12, v13] t (0, 0)))) : cb14 w g v0 v1 v2 v3 v4 v5 v6 v7 v8 v9 v10 v11 v12 v13 := ⟨(blk_cell h.out 0).trans rfl, (blk_cell h.out 1).trans rfl, (blk_cell h.out 2).trans rfl, (blk_cell h.out 3).trans rfl, (blk_cell h.out 4).trans rfl, (blk_cell h.out 5).trans rfl, (blk_cell h.out 6).trans rfl, (blk_cell h.out 7).trans rfl, (blk_cell h.out 8).trans rfl, (blk_cell h.out 9).trans rfl, (blk_cell h.out 10).trans rfl, (blk_cell h.out 11).trans rfl, (blk_cell h.out 12).trans rfl, (blk_cell h.out 13).trans rfl⟩
/-- Marks in a row, out of a number's bits. -/
def mL : Nat → Nat → List Bool
  | 0, _ => []
  | n + 1, b => Nat.beq (b % 2) 1 :: mL n (b / 2)
abbrev mA (n b : Nat) : Array Bool := ⟨mL n b⟩
end Go.Proofs.Ytlneecichgimpaa.Base
