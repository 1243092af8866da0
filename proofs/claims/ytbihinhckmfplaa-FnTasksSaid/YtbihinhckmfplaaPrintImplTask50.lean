/- Go functions as plain Lean functions, and that the Go code answers just as these, wherever they answer. Conditions: those of each theorem. Written by a program of this session (wip/patch.py). -/
import Derived.Lib.SliceRun
import Derived.Lib.AppendZerosOnto
import Derived.Lib.Overlaps
import Derived.Laws.NewBlocks
import Derived.Laws.IdiomCopy
import Derived.Shelf.RegionOpenPlain
import Derived.Test.YtbihinhckmfplaaPrint0
namespace Go.Proofs.Ytbihinhckmfplaa.Print
open Go.RowKit Go.Proofs.Ytbihinhckmfplaa.Base Go.Proofs.YtbihinhckmfplaaW.PrintWords Go.Proofs.YtbihinhckmfplaaW.PrintLast Go.Proofs.YtbihinhckmfplaaW.PrintMore
attribute [local go_sem] max2_int min2_int max_two min_two max_three min_three max_four min_four   -- for this text's walks alone
set_option linter.unusedVariables false
set_option linter.unusedSimpArgs false

/-! ### impl_Task_20: function 20, by hand -/
-- MANUAL rounds=no making=yes
-- TAKEN 0,0;2,0
def impl_Task_20.f (l0 : List S30) (a1 : Int) (l2 : List S30) : Option (List S30) := if l0.length < 1000000000000 ∧ 0 ≤ a1 ∧ a1 ≤ (l0.length : Int) ∧ l2.length = 1 then some (l0.take a1.toNat ++ l2 ++ l0.drop a1.toNat) else none
theorem ins_isSome (b : Nat) (vs : List Value) (o : Nat) (w : World) (h : ∀ j, j < vs.length → (w.cell? ⟨b, o + j, none⟩).isSome = true) (k : Nat) (hk : (w.cell? ⟨b, k, none⟩).isSome = true) : ((w.setCells b o vs).cell? ⟨b, k, none⟩).isSome = true := by
  by_cases hin : o ≤ k ∧ k < o + vs.length
  · have := World.cell?_setCells_in b vs o w h (k - o) (by omega)
    rw [show o + (k - o) = k by omega] at this
    rw [this]; rfl
  rw [World.cell?_setCells_out b vs o w ⟨b, k, none⟩ (fun _ _ => by show k < o ∨ o + vs.length ≤ k; omega)]
  exact hk
/-- copy at elements of any size. -/
theorem run_copyE {P : Program} (w : World) (dT sT ty elem : TypeId) (b o dLen dCap : Nat) (a : Addr) (sLen sCap size m : Nat) (cs : List Value)
    (hu : P.underlying dT = some (.slice elem)) (hs : (P.info? elem).map (·.size) = some size) (hm : Nat.min sLen dLen = m) (hn : cs.length = m * size)
    (hsrc : ∀ j v, cs[j]? = some v → w.cell? (a.add j) = some v) (hc : ∀ j, j < cs.length → (w.cell? ⟨b, o + j, none⟩).isSome = true) (hf : ∀ j, j < cs.length → w.frozen? ⟨b, o + j, none⟩ = false) (h1 : ∀ v ∈ cs, v.oneCell' = true) :
    (Builtin.copy_ #[dT, sT] ty #[.slice (some ⟨b, o, none⟩) dLen dCap, .slice (some a) sLen sCap]).run P w = .ok (goInt m) (w.setCells b o cs) := by
  have hst := run_storeCells_cells (P := P) b o cs 0 w (by simpa using hc) (by simpa using hf) h1
  cases hq : P.info? elem with
  | none => simp [hq] at hs
  | some i =>
    have hi : i.size = size := by simpa [hq] using hs
    have hfc := run_firstCells_some (P := P) w i.size m a sLen sCap cs (by rw [hi]; exact hn) hsrc
    have hm' : min sLen dLen = m := hm
    subst hi
    simp [Builtin.copy_, run_underlying hu, Builtin.lenOf, sizeOf, typeInfo, hq, hm', hfc, hst]
theorem step_copyE {P : Program} {ops : Array Oper} {o : Oper} {a : Act} {w : World} {K : Act → World → Prop} {Q : Exit → Act → World → Prop} {E : Prop}
    (hg : o.guard = none) (d x : Operand) (dT sT : TypeId) (hop : o.op = Op.call { callee := Callee.builtin Builtin.copy, args := #[d, x], argTypes := #[dT, sT] })
    (v u : Value) (hd : a.eval d = v) (hx : a.eval x = u) {v' : Value} {w' : World} (hr : (Builtin.copy_ #[dT, sT] o.type #[v, u]).run P w = .ok v' w') (hK : K (a.put o.dst v') w') :
    if Region.wanted o (yielded ops a.tmps) = true then Oper.wp P o a w K Q else E := by
  have hw : Region.wanted o (yielded ops a.tmps) = true := by simp [Region.wanted, hg]
  rw [if_pos hw]
  unfold Oper.wp execOp
  simp only [hop, resolve, invoke, builtin, Sem.run_bind, Sem.run_pure, Result.andThen_ok, List.map_toArray, List.map_cons, List.map_nil, hd, hx, hr]
  exact hK
theorem list_copyE {P : Program} (w : World) {ops : Array Oper} {rest : List Oper} {o : Oper} {a : Act} {Q : Exit → Act → World → Prop} (hgd : o.guard = none) (d s : Operand) (t t' : TypeId)
    (ho : o.op = .call { callee := .builtin .copy, args := #[d, s], argTypes := #[t, t'] }) (v u : Value) (hd : a.eval d = v) (hs : a.eval s = u) {v' : Value} {w' : World}
    (hr : (Builtin.copy_ #[t, t'] o.type #[v, u]).run P w = .ok v' w') (h : wpList P ops Q rest (a.put o.dst v') w') : wpList P ops Q (o :: rest) a w :=
  wpList_plain hgd fun _ hK => by
    unfold Oper.wp execOp
    simp only [ho, resolve, invoke, builtin, Sem.run_bind, Sem.run_pure, Result.andThen_ok, List.map_toArray, List.map_cons, List.map_nil, hd, hs, hr]
    exact hK _ _ h
theorem ins_list_shift {α : Type} (cur cs2 rest X : List α) (a : Nat) (h : a + cs2.length ≤ cur.length) :
    (((cur.take (a + cs2.length) ++ rest ++ X).take a) ++ cs2 ++ ((cur.take (a + cs2.length) ++ rest ++ X).drop (a + cs2.length))).take (a + cs2.length + rest.length) = cur.take a ++ cs2 ++ rest := by
  have h1 : (cur.take (a + cs2.length)).length = a + cs2.length := by rw [List.length_take]; omega
  have h2 : (cur.take (a + cs2.length) ++ rest ++ X).take a = cur.take a := by
    rw [List.append_assoc, List.take_append_of_le_length (by omega), List.take_take, Nat.min_eq_left (by omega)]
  have h3 : (cur.take (a + cs2.length) ++ rest ++ X).drop (a + cs2.length) = rest ++ X := by
    rw [List.append_assoc]
    exact List.drop_left' h1
  rw [h2, h3, ← List.append_assoc]
  exact List.take_left' (by simp only [List.length_append, List.length_take]; omega)
theorem ins_list_grow {α : Type} (cur cs2 rest X Y : List α) (a : Nat) (h : a ≤ cur.length) :
    (((cur.take a ++ cs2 ++ X).take (a + cs2.length)) ++ rest ++ Y).take (a + cs2.length + rest.length) = cur.take a ++ cs2 ++ rest := by
  have h1 : (cur.take a ++ cs2).length = a + cs2.length := by rw [List.length_append, List.length_take]; omega
  rw [List.take_left' h1]
  exact List.take_left' (by rw [List.length_append, h1])
/-- A row whose cells are those of xs with ys put in at i. -/
theorem R_ins {α : Type} (d : Kd α) (hp : ∀ {w w' : World} {b b' : Nat} {ok ok' : Nat → Prop} {x : α} {cs : List Value}, d.M w b ok x cs → d.M w' b' ok' x cs) {W W1 W2 : World} {e base b1 b2 g cap i : Nat} {ok ok1 ok2 : Nat → Prop} {cur : Array Value} {xs ys : List α} {inner cs2 : List Value}
    (hh : W.heap[g]? = some (.cells cur e (0, 0))) (hcs : cur.size = cap * d.sz) (hcm : cap ≤ maxLen) (hb : base ≤ g) (hok : ok g) (h1 : Reps (d.M W1 b1 ok1) d.sz xs inner) (h2 : Reps (d.M W2 b2 ok2) d.sz ys cs2) (hi : i ≤ xs.length) (hN : xs.length + ys.length ≤ cap)
    (ht : cur.toList.take ((xs.length + ys.length) * d.sz) = inner.take (i * d.sz) ++ cs2 ++ inner.drop (i * d.sz)) :
    d.R e W base ok (.slice (some ⟨g, 0, none⟩) (xs.length + ys.length) cap) (xs.take i ++ ys ++ xs.drop i) := by
  have hl : (xs.take i ++ ys ++ xs.drop i).length = xs.length + ys.length := by simp only [List.length_append, List.length_take, List.length_drop]; omega
  have hr : Reps (d.M W base (fun k => ok k ∧ some k ≠ (Value.slice (some ⟨g, 0, none⟩) (xs.length + ys.length) cap).ownBlock)) d.sz (xs.take i ++ ys ++ xs.drop i) (inner.take (i * d.sz) ++ cs2 ++ inner.drop (i * d.sz)) :=
    Kd.reps_append (Kd.reps_append ((Kd.reps_take h1 hi).imp_ fun _ _ h => hp h) (h2.imp_ fun _ _ h => hp h)) ((Kd.reps_drop h1).imp_ fun _ _ h => hp h)
  refine ⟨fun k hk => ?_, _, ⟨?_, .inr ⟨g, cap, cur, by rw [hl], hb, hh, by rw [hl]; exact hN, hcm, hcs, by rw [hl]; exact ht⟩⟩, hr⟩
  · have : g = k := by simpa [Value.ownBlock] using hk
    subst this
    exact hok
  exact hr.1
theorem R_open {α : Type} {d : Kd α} {W : World} {e base : Nat} {ok : Nat → Prop} {v : Value} {xs : List α} (HO : d.R e W base ok v xs) (hn : 0 < xs.length) :
    ∃ g cap cur inner, v = .slice (some ⟨g, 0, none⟩) xs.length cap ∧ base ≤ g ∧ ok g ∧ g < W.heap.size ∧ W.heap[g]? = some (.cells cur e (0, 0)) ∧ xs.length ≤ cap ∧ cap ≤ maxLen ∧ cur.size = cap * d.sz ∧ cur.toList.take (xs.length * d.sz) = inner ∧ Reps (d.M W base (fun k => ok k ∧ some k ≠ v.ownBlock)) d.sz xs inner := by
  obtain ⟨hok, inner, hown, hr⟩ := HO
  rcases hown.2 with ⟨hv, h0⟩ | ⟨g, cap, cur, hv, hb, hh, hnc, hcm, hcs, htake⟩
  · exact absurd hn (by have h1 := hown.1; simp_all)
  refine ⟨g, cap, cur, inner, hv, hb, hok g (by rw [hv]; simp [Value.ownBlock]), blk_lt hh, hh, hnc, hcm, hcs, htake, hr⟩
theorem reps_one {α : Type} {d : Kd α} {W : World} {base : Nat} {ok : Nat → Prop} {xs : List α} {inner : List Value} (hs0 : 0 < d.sz) (hr : Reps (d.M W base ok) d.sz xs inner) : ∀ u ∈ inner, u.oneCell' = true := by
  intro u hu
  obtain ⟨q, hq, rfl⟩ := List.mem_iff_getElem.1 hu
  have hql : q / d.sz < xs.length := by
    rw [Nat.div_lt_iff_lt_mul hs0, ← hr.1]
    exact hq
  refine d.K_one (d.K_of_M (hr.2 (q / d.sz) _ (List.getElem?_eq_getElem hql))) _ ?_
  rw [List.mem_iff_getElem?]
  refine ⟨q % d.sz, ?_⟩
  rw [List.getElem?_take, if_pos (Nat.mod_lt _ hs0), List.getElem?_drop, Nat.mul_comm, Nat.div_add_mod, List.getElem?_eq_getElem hq]
set_option maxHeartbeats 4000000 in
set_option maxRecDepth 100000 in
theorem impl_Task_20.atEnd (P0_ P2_ : Nat → Prop) (A : Option Addr) (c : Nat) (l0 : List S30) (vb vc : Nat) (l2 : List S30) (w0 w : World) (hB : Below w0.heap.size w0 w) (ho0 : Kd.R k30 30 w w0.heap.size P0_ (.slice A l0.length c) l0) (ho2 : Kd.R k30 30 w w0.heap.size P2_ (.slice (some ⟨vb, 0, none⟩) 1 vc) l2) (hl : l0.length < 1000000000000) (hm : l2.length = 1) :
    Calls Try.prog 20 #[.slice A l0.length c, .int .i64 (l0.length : Nat), .slice (some ⟨vb, 0, none⟩) 1 vc] w fun e w' => ∃ v0_ : Value, e = .returned (v0_) ∧ Kd.R k30 30 w' w0.heap.size (fun k_ => ((P0_ k_ ∨ P2_ k_) ∨ w.heap.size ≤ k_)) v0_ (l0 ++ l2) ∧ Below w0.heap.size w0 w' ∧ Kept w w' (fun k_ => P0_ k_ ∨ P2_ k_) := by
  have hr0 := Kd.R_reads' ho0
  have hr2 := Kd.R_reads' ho2
  have hc := hr0.2.1
  have hC2 := hr2.2.2
  rw [hm] at hC2
  have HC2 := Aside0.mk hC2
  have HO0 := Aside0.mk ho0
  have HB := Aside0.mk hB
  have HL := Aside0.mk hl
  have mixed : Try.prog.follows Departure.mixedOrders = true := by kernel_rfl
  have h63 : (l0.length : Int) ≤ (l0.length : Int) := Int.le_refl _
  clear hr0 hr2 hC2 ho0 ho2 hB
  go_enter Try.func20, Try.ntmps20
  go_wp2_with ((with_reducible refine gate_builtin (b := .append) (xs := #[.tmp 23, .tmp 24]) rfl ?_); at_builtin; refine Kd.R_append_rows k30 (w0 := w0) w0.heap.size rfl (.tmp 23) (.tmp 24) 26 30 (.agg #[(.int .i64 0), (.int .i64 0), (.int .i64 0), (.int .i64 0), (.bool false), (.int .i64 0), (.int .i64 0), (.int .i64 0), (.int .i64 0), (.int .i64 0), (.int .i64 0), (.int .i64 0), (.int .i64 0), (.int .i64 0)]) 112 rfl Try.underlying26 info30 rfl (by decide) (by omega) (.slice A l0.length c) l0 l2 _ _ _ (fun k_ => (P0_ k_ ∨ P2_ k_) ∨ w.heap.size ≤ k_) (fun _ => False) rfl rfl ?aO ?aR (fun _ _ h => h) (fun _ h => h.elim) (fun _ h => .inr h) ?aB ?aS ?aL ?_; (case aR => exact HC2.out); (case aO => exact Kd.R_mono HO0.out (fun _ h => .inl (.inl h))); (case aB => exact HB.out); (case aS => exact HB.out.size); (case aL => have := HL.out; simp; omega); intro v2 w2 ho hb hg hat; have HB2 := aM hb; have HO2 := aM ho; have HG2 := aM hg; clear ho hb hg hat)
  all_goals (go_ret; exact ⟨_, rfl, HO2.out, HB2.out, Kept.of_grown HG2.out (Kept.refl _ _) (fun k e => .inl (.inl (HO0.out.1 k e)))⟩)
set_option maxHeartbeats 4000000 in
set_option maxRecDepth 100000 in
theorem impl_Task_20.shift (P0_ P2_ : Nat → Prop) (g n c i : Nat) (cur : Array Value) (l0 : List S30) (cs : List Value) (vb vc : Nat) (curv : Array Value) (l2 : List S30) (cs2 : List Value) (base : Nat) (W1 W2 w : World) (b1 b2 : Nat) (ok1 ok2 : Nat → Prop)
    (hn : l0.length = n) (hm : l2.length = 1) (hl : n < 1000000000000) (hi : i < n) (hroom : n + 1 ≤ c) (hcm : c ≤ maxLen) (hvb : vb ≠ g)
    (hh : w.heap[g]? = some (.cells cur 30 (0, 0))) (hcs : cur.size = c * 14) (htk : cur.toList.take (n * 14) = cs) (hb : base ≤ g) (hP : P0_ g) (hr : Reps (k30.M W1 b1 ok1) 14 l0 cs)
    (hv : w.heap[vb]? = some (.cells curv 30 (0, 0))) (hvc : 1 * 14 ≤ curv.size) (hvt : curv.toList.take (1 * 14) = cs2) (hr2 : Reps (k30.M W2 b2 ok2) 14 l2 cs2) :
    Calls Try.prog 20 #[.slice (some ⟨g, 0, none⟩) n c, .int .i64 i, .slice (some ⟨vb, 0, none⟩) 1 vc] w fun e w' => e = .returned (.slice (some ⟨g, 0, none⟩) (n + 1) c) ∧ Kd.R k30 30 w' base (fun k_ => ((P0_ k_ ∨ P2_ k_) ∨ w.heap.size ≤ k_)) (.slice (some ⟨g, 0, none⟩) (n + 1) c) (l0.take i ++ l2 ++ l0.drop i) ∧ w.grownBy w' (some g) := by
  have hcsl : cs.length = n * 14 := by rw [hr.1, hn]
  have hcs2 : cs2.length = 14 := by rw [hr2.1, hm]
  have h1c : ∀ u ∈ cs, u.oneCell' = true := reps_one (d := k30) (by decide) hr
  have h1v : ∀ u ∈ cs2, u.oneCell' = true := reps_one (d := k30) (by decide) hr2
  have hsz : (Try.prog.info? 30).map (·.size) = some 14 := by kernel_rfl
  have hz : ∀ w, (Go.sizeOf 30).run Try.prog w = .ok 14 w := fun w => by rfl
  have hsa : w.shape? vb = some (30, curv.size) := by simp [World.shape?, hv]
  have hsb : w.shape? g = some (30, cur.size) := by simp [World.shape?, hh]
  have hov : ∀ off lb cb, (callFunc 39 #[.slice (some ⟨vb, 0, none⟩) 1 vc, .slice (some ⟨g, off, none⟩) lb cb]).run Try.prog w = .ok (.value (.bool false)) w := fun off lb cb => by
    rw [run_callFunc_extern Try.func39 (by kernel_rfl) (by kernel_rfl) (by kernel_rfl) (e := Extern.SlicesOverlaps.overlaps #[26, 26] #[4]) (by kernel_rfl),
      Lib.run_overlaps_apart w 26 4 30 Try.underlying26 14 hz ⟨vb, 0, none⟩ ⟨g, off, none⟩ 1 vc lb cb hvb _ _ _ _ hsa hsb (by omega) (blk_frozen hv _) (blk_frozen hv _)]
    rfl
  have mixed : Try.prog.follows Departure.mixedOrders = true := by kernel_rfl
  have hw1 : IntKind.i64.wrap ((n : Int) + 1) = (n : Int) + 1 := by rw [IntKind.wrap_i64]; omega
  have hw2 : IntKind.i64.wrap ((i : Int) + 1) = (i : Int) + 1 := by rw [IntKind.wrap_i64]; omega
  have hcell : ∀ j, w.cell? ⟨g, j, none⟩ = cur[j]? := fun j => cell_of_row w g j cur 30 (0, 0) hh
  have hcv : ∀ j, w.cell? ⟨vb, j, none⟩ = curv[j]? := fun j => cell_of_row w vb j curv 30 (0, 0) hv
  have hdl : (cs.drop (i * 14)).length = (n - i) * 14 := by rw [List.length_drop, hcsl, Nat.sub_mul]
  have hcp1 : ∀ ty dc sc, (Builtin.copy_ #[26, 26] ty #[.slice (some ⟨g, (i + 1) * 14, none⟩) (n - i) dc, .slice (some ⟨g, i * 14, none⟩) (n + 1 - i) sc]).run Try.prog w.drew = .ok (goInt (n - i : Nat)) (w.drew.setCells g ((i + 1) * 14) (cs.drop (i * 14))) := fun ty dc sc =>
    run_copyE w.drew _ _ ty 30 g ((i + 1) * 14) (n - i) dc ⟨g, i * 14, none⟩ (n + 1 - i) sc 14 (n - i) (cs.drop (i * 14)) Try.underlying26 hsz (by simp only [Nat.min_def]; split <;> omega) hdl
      (fun j v hj => by
        rw [Addr.add_lit]
        show w.cell? _ = _
        rw [hcell, ← Array.getElem?_toList]
        rw [List.getElem?_drop] at hj
        have hlt := (List.getElem?_eq_some_iff.1 hj).1
        rw [← htk, List.getElem?_take] at hj
        split at hj
        · exact hj
        cases hj)
      (fun j hj => by show (w.cell? _).isSome = true; rw [hcell, Array.getElem?_eq_getElem (by omega)]; rfl) (fun j hj => blk_frozen (w := w) hh _) (fun v hv => h1c v (List.mem_of_mem_drop hv))
  obtain ⟨W1', hW1⟩ : ∃ W1', W1' = w.drew.setCells g ((i + 1) * 14) (cs.drop (i * 14)) := ⟨_, rfl⟩
  rw [← hW1] at hcp1
  obtain ⟨cur1, e1, e2, e3⟩ := setCells_row (cs.drop (i * 14)) ((i + 1) * 14) w.drew cur hh (by omega)
  rw [← hW1] at e1
  have hcp2 : ∀ ty dc, (Builtin.copy_ #[26, 26] ty #[.slice (some ⟨g, i * 14, none⟩) (n + 1 - i) dc, .slice (some ⟨vb, 0, none⟩) 1 vc]).run Try.prog W1' = .ok (goInt (1 : Nat)) (W1'.setCells g (i * 14) cs2) := fun ty dc =>
    run_copyE W1' _ _ ty 30 g (i * 14) (n + 1 - i) dc ⟨vb, 0, none⟩ 1 vc 14 1 cs2 Try.underlying26 hsz (by simp only [Nat.min_def]; split <;> omega) (by omega)
      (fun j v hj => by
        rw [Addr.add_lit, hW1, World.cell?_setCells_out g _ _ _ _ (fun h _ => absurd h hvb)]
        show w.cell? _ = _
        rw [hcv, ← Array.getElem?_toList]
        rw [← hvt, List.getElem?_take] at hj
        split at hj
        · rw [Nat.zero_add]; exact hj
        cases hj)
      (fun j hj => by rw [cell_of_row W1' g _ cur1 30 (0, 0) e1, Array.getElem?_eq_getElem (by omega)]; rfl) (fun j hj => blk_frozen e1 _) h1v
  obtain ⟨W2', hW2⟩ : ∃ W2', W2' = W1'.setCells g (i * 14) cs2 := ⟨_, rfl⟩
  rw [← hW2] at hcp2
  obtain ⟨cur2, f1, f2, f3⟩ := setCells_row cs2 (i * 14) W1' cur1 e1 (by omega)
  rw [← hW2] at f1
  have hfin : Kd.R k30 30 W2' base (fun k_ => ((P0_ k_ ∨ P2_ k_) ∨ w.heap.size ≤ k_)) (.slice (some ⟨g, 0, none⟩) (n + 1) c) (l0.take i ++ l2 ++ l0.drop i) := by
    have := R_ins k30 (fun h => h) (W := W2') (e := 30) (base := base) (g := g) (cap := c) (i := i) (ok := (fun k_ => ((P0_ k_ ∨ P2_ k_) ∨ w.heap.size ≤ k_))) f1 (by rw [f2, e2]; exact hcs) hcm hb (.inl (.inl hP)) hr hr2 (by omega) (by omega) (by
      rw [hn, hm]
      show List.take ((n + 1) * 14) cur2.toList = cs.take (i * 14) ++ cs2 ++ cs.drop (i * 14)
      rw [f3, e3]
      have q := ins_list_shift cur.toList cs2 (cs.drop (i * 14)) (cur.toList.drop ((i + 1) * 14 + (cs.drop (i * 14)).length)) (i * 14) (by rw [hcs2, Array.length_toList, hcs]; omega)
      rw [hcs2, hdl, show i * 14 + 14 + (n - i) * 14 = (n + 1) * 14 by omega, show i * 14 + 14 = (i + 1) * 14 by omega] at q
      rw [hcs2, hdl, show i * 14 + 14 = (i + 1) * 14 by omega, q, ← htk, List.take_take, Nat.min_eq_left (by omega)])
    rw [hn, hm] at this
    exact this
  have hgr : w.grownBy W2' (some g) := by
    obtain ⟨s1, s2, s3, s4⟩ := setCells_same g cs2 (i * 14) W1'
    obtain ⟨t1, t2, t3, t4⟩ := setCells_same g (cs.drop (i * 14)) ((i + 1) * 14) w.drew
    rw [← hW2] at s1 s2 s3 s4
    rw [← hW1] at t1 t2 t3 t4
    refine ⟨s1.trans t1, s2.trans t2, s3.trans t3, by rw [s4, t4]; exact Nat.le_refl _, fun k _ hk => ?_⟩
    have hkg : k ≠ g := fun e => hk (by rw [e])
    rw [hW2, setCells_far _ _ _ hkg, hW1, setCells_far _ _ _ hkg]
    rfl
  have hx1 : ¬ (i = n) := by omega
  have hx2 : ¬ ((i : Int) = (n : Int)) := by omega
  have hx3 : ¬ ((c : Int) < (n : Int) + 1) := by omega
  have hx4 : ¬ (c = i) := by omega
  have hx5 : ¬ (c = i + 1) := by omega
  have hx6 : (0 : Int) ≤ (n : Int) + 1 := by omega
  have hx7 : (n : Int) + 1 ≤ (c : Int) := by omega
  have hx8 : ((n : Int) + 1).toNat = n + 1 := by omega
  have hx9 : (0 : Int) ≤ (i : Int) + 1 := by omega
  have hxa : (i : Int) + 1 ≤ (n : Int) + 1 := by omega
  have hxb : ((i : Int) + 1).toNat = i + 1 := by omega
  have hxc : (i : Int) ≤ (n : Int) := by omega
  have hxd : (i : Int) ≤ (n : Int) + 1 := by omega
  have HF := Aside0.mk hfin
  have HG := Aside0.mk hgr
  clear hfin hgr e1 e2 e3 f1 f2 f3 hW1 hW2 hcell hcv hsa hsb h1c h1v hr hr2 htk hvt hcs hvc
  go_enter Try.func20, Try.ntmps20
  go_wp2_with (simp only [hov])
  go_region_law_o (refine step_copyE rfl _ _ 26 26 rfl _ _ (by simp [Act.eval, Act.put]) (by simp [Act.eval, Act.put]) (hcp1 _ _ _) ?_)
  go_wp2_with (at_builtin; refine list_copyE _ rfl _ _ 26 26 rfl _ _ rfl rfl (hcp2 _ _) ?_)
  go_ret
  exact ⟨rfl, HF.out, HG.out⟩
set_option maxHeartbeats 4000000 in
set_option maxRecDepth 100000 in
theorem impl_Task_20.grow (P0_ P2_ : Nat → Prop) (g n c i : Nat) (cur : Array Value) (l0 : List S30) (cs : List Value) (vb vc : Nat) (curv : Array Value) (l2 : List S30) (cs2 : List Value) (base : Nat) (W1 W2 w : World) (b1 b2 : Nat) (ok1 ok2 : Nat → Prop)
    (hn : l0.length = n) (hm : l2.length = 1) (hl : n < 1000000000000) (hi : i < n) (hnc : n ≤ c) (hroom : c < n + 1)
    (hh : w.heap[g]? = some (.cells cur 30 (0, 0))) (hcs : cur.size = c * 14) (htk : cur.toList.take (n * 14) = cs) (hbw : base ≤ w.heap.size) (hr : Reps (k30.M W1 b1 ok1) 14 l0 cs)
    (hv : w.heap[vb]? = some (.cells curv 30 (0, 0))) (hvc : 1 * 14 ≤ curv.size) (hvt : curv.toList.take (1 * 14) = cs2) (hr2 : Reps (k30.M W2 b2 ok2) 14 l2 cs2) :
    Calls Try.prog 20 #[.slice (some ⟨g, 0, none⟩) n c, .int .i64 i, .slice (some ⟨vb, 0, none⟩) 1 vc] w fun e w' => ∃ v0_ : Value, e = .returned v0_ ∧ Kd.R k30 30 w' base (fun k_ => ((P0_ k_ ∨ P2_ k_) ∨ w.heap.size ≤ k_)) v0_ (l0.take i ++ l2 ++ l0.drop i) ∧ w.grownBy w' none := by
  have hcsl : cs.length = n * 14 := by rw [hr.1, hn]
  have hcs2 : cs2.length = 14 := by rw [hr2.1, hm]
  have h1c : ∀ u ∈ cs, u.oneCell' = true := reps_one (d := k30) (by decide) hr
  have h1v : ∀ u ∈ cs2, u.oneCell' = true := reps_one (d := k30) (by decide) hr2
  obtain ⟨i0, hi0, hzz⟩ := Option.map_eq_some_iff.1 info30
  simp only [Prod.mk.injEq] at hzz
  obtain ⟨hz0, hzs, hzb⟩ := hzz
  have hsz : (Try.prog.info? 30).map (·.size) = some 14 := by rw [hi0]; simp [hzs]
  have mixed : Try.prog.follows Departure.mixedOrders = true := by kernel_rfl
  have hgw : g < w.heap.size := blk_lt hh
  have hvw : vb < w.heap.size := blk_lt hv
  have hw1 : IntKind.i64.wrap ((n : Int) + 1) = (n : Int) + 1 := by rw [IntKind.wrap_i64]; omega
  have hw2 : IntKind.i64.wrap ((i : Int) + 1) = (i : Int) + 1 := by rw [IntKind.wrap_i64]; omega
  have hw3 : IntKind.i64.wrap ((n : Int) + 1 - (i : Int)) = (n : Int) + 1 - (i : Int) := by rw [IntKind.wrap_i64]; omega
  have hkk : (n : Int) + 1 - (i : Int) = ((n + 1 - i : Nat) : Int) := by omega
  have hik : i + (n + 1 - i) = n + 1 := by omega
  have hcell : ∀ j, w.cell? ⟨g, j, none⟩ = cur[j]? := fun j => cell_of_row w g j cur 30 (0, 0) hh
  have hcv : ∀ j, w.cell? ⟨vb, j, none⟩ = curv[j]? := fun j => cell_of_row w vb j curv 30 (0, 0) hv
  have hcc : ∀ j v, cs[j]? = some v → w.cell? ⟨g, j, none⟩ = some v := fun j v hj => by
    rw [hcell, ← Array.getElem?_toList]
    rw [← htk, List.getElem?_take] at hj
    split at hj
    · exact hj
    cases hj
  have hcc2 : ∀ j v, cs2[j]? = some v → w.cell? ⟨vb, j, none⟩ = some v := fun j v hj => by
    rw [hcv, ← Array.getElem?_toList]
    rw [← hvt, List.getElem?_take] at hj
    split at hj
    · exact hj
    cases hj
  have hold : (Builtin.firstCells i0.size i (.slice (some ⟨g, 0, none⟩) i c)).run Try.prog w.drew = .ok (cs.take (i * 14)).toArray w.drew := by
    rw [hzs]
    exact run_firstCells_some w.drew 14 i ⟨g, 0, none⟩ i c (cs.take (i * 14)) (by rw [List.length_take]; omega) (fun j v hj => by
      rw [Addr.add_lit, Nat.zero_add]
      rw [List.getElem?_take] at hj
      split at hj
      · exact hcc j v hj
      cases hj)
  have hrz : ∀ ty, (Builtin.append_ #[26, 3] ty #[.slice (some ⟨g, 0, none⟩) i c, .int .i64 ((n : Int) + 1 - (i : Int))]).run Try.prog w =
      .ok (.slice (some ⟨w.heap.size, 0, none⟩) (n + 1) (grownCap w (n + 1) c 30)) (w.drew.alloc (.cells ((cs.take (i * 14)).toArray ++ Builtin.zeroCells (.agg #[(.int .i64 0), (.int .i64 0), (.int .i64 0), (.int .i64 0), (.bool false), (.int .i64 0), (.int .i64 0), (.int .i64 0), (.int .i64 0), (.int .i64 0), (.int .i64 0), (.int .i64 0), (.int .i64 0), (.int .i64 0)] : Value).cells (n + 1 - i) ++ Builtin.zeroCells (.agg #[(.int .i64 0), (.int .i64 0), (.int .i64 0), (.int .i64 0), (.bool false), (.int .i64 0), (.int .i64 0), (.int .i64 0), (.int .i64 0), (.int .i64 0), (.int .i64 0), (.int .i64 0), (.int .i64 0), (.int .i64 0)] : Value).cells (grownCap w (n + 1) c 30 - (n + 1))) 30)) := fun ty => by
    have h := Lib.run_append_grow_zeros w 26 3 ty 30 i0 _ .i64 .i64 Try.underlying26 Try.underlying3 hi0 hz0 (some ⟨g, 0, none⟩) i c (cs.take (i * 14)) hold (n + 1 - i) (by omega) (by omega) (by omega) (by omega) (by rw [hzb]; omega) (by rw [hzb, hik]; exact growslice_fits hroom (by omega))
    rw [hik] at h
    rw [hkk]
    exact h
  obtain ⟨G, hG⟩ : ∃ G, G = grownCap w (n + 1) c 30 := ⟨_, rfl⟩
  obtain ⟨ROW, hROW⟩ : ∃ ROW : Array Value, ROW = (cs.take (i * 14)).toArray ++ Builtin.zeroCells (.agg #[(.int .i64 0), (.int .i64 0), (.int .i64 0), (.int .i64 0), (.bool false), (.int .i64 0), (.int .i64 0), (.int .i64 0), (.int .i64 0), (.int .i64 0), (.int .i64 0), (.int .i64 0), (.int .i64 0), (.int .i64 0)] : Value).cells (n + 1 - i) ++ Builtin.zeroCells (.agg #[(.int .i64 0), (.int .i64 0), (.int .i64 0), (.int .i64 0), (.bool false), (.int .i64 0), (.int .i64 0), (.int .i64 0), (.int .i64 0), (.int .i64 0), (.int .i64 0), (.int .i64 0), (.int .i64 0), (.int .i64 0)] : Value).cells (G - (n + 1)) := ⟨_, rfl⟩
  rw [← hG] at hrz
  rw [← hROW] at hrz
  have hGn : n + 1 ≤ G := by rw [hG]; exact grownCap_ge w _ _ _
  have hGm : G ≤ maxLen := by rw [hG]; exact grownCap_le_maxLen w (n + 1) c 30 (by unfold maxLen; omega)
  have hRl : ROW.size = G * 14 := by
    rw [hROW]
    simp only [Array.size_append, size_zeroCells, List.size_toArray, List.length_take, show ((.agg #[(.int .i64 0), (.int .i64 0), (.int .i64 0), (.int .i64 0), (.bool false), (.int .i64 0), (.int .i64 0), (.int .i64 0), (.int .i64 0), (.int .i64 0), (.int .i64 0), (.int .i64 0), (.int .i64 0), (.int .i64 0)] : Value).cells).size = 14 from rfl]
    omega
  have hRt : ROW.toList.take (i * 14) = cs.take (i * 14) := by
    rw [hROW, Array.toList_append, Array.toList_append, List.append_assoc]
    exact List.take_left' (by show (cs.take (i * 14)).length = _; rw [List.length_take]; omega)
  obtain ⟨W0, hW0⟩ : ∃ W0, W0 = w.drew.alloc (.cells ROW 30) := ⟨_, rfl⟩
  rw [← hW0] at hrz
  have e0 : W0.heap[w.heap.size]? = some (.cells ROW 30 (0, 0)) := by rw [hW0]; exact heap_alloc_new w.drew _
  have hOg : ∀ j v, w.cell? ⟨g, j, none⟩ = some v → W0.cell? ⟨g, j, none⟩ = some v := fun j v h => by rw [hW0, World.cell?_alloc_past (w := w.drew) _ g j hgw]; exact h
  have hOv : ∀ j v, w.cell? ⟨vb, j, none⟩ = some v → W0.cell? ⟨vb, j, none⟩ = some v := fun j v h => by rw [hW0, World.cell?_alloc_past (w := w.drew) _ vb j hvw]; exact h
  have hcpA : ∀ ty dc, (Builtin.copy_ #[26, 26] ty #[.slice (some ⟨w.heap.size, i * 14, none⟩) (n + 1 - i) dc, .slice (some ⟨vb, 0, none⟩) 1 vc]).run Try.prog W0 = .ok (goInt (1 : Nat)) (W0.setCells w.heap.size (i * 14) cs2) := fun ty dc =>
    run_copyE W0 _ _ ty 30 w.heap.size (i * 14) (n + 1 - i) dc ⟨vb, 0, none⟩ 1 vc 14 1 cs2 Try.underlying26 hsz (by simp only [Nat.min_def]; split <;> omega) (by omega)
      (fun j v hj => by rw [Addr.add_lit, Nat.zero_add]; exact hOv _ v (hcc2 j v hj))
      (fun j hj => by rw [cell_of_row W0 w.heap.size _ ROW 30 (0, 0) e0, Array.getElem?_eq_getElem (by omega)]; rfl) (fun j hj => blk_frozen e0 _) h1v
  obtain ⟨W1', hW1⟩ : ∃ W1', W1' = W0.setCells w.heap.size (i * 14) cs2 := ⟨_, rfl⟩
  rw [← hW1] at hcpA
  obtain ⟨cur1, e1, e2, e3⟩ := setCells_row cs2 (i * 14) W0 ROW e0 (by omega)
  rw [← hW1] at e1
  have hgN : g ≠ w.heap.size := by omega
  have hdl : (cs.drop (i * 14)).length = (n - i) * 14 := by rw [List.length_drop, hcsl, Nat.sub_mul]
  have hcpB : ∀ ty dc sc, (Builtin.copy_ #[26, 26] ty #[.slice (some ⟨w.heap.size, (i + 1) * 14, none⟩) (n - i) dc, .slice (some ⟨g, i * 14, none⟩) (n - i) sc]).run Try.prog W1'.drew = .ok (goInt (n - i : Nat)) (W1'.drew.setCells w.heap.size ((i + 1) * 14) (cs.drop (i * 14))) := fun ty dc sc =>
    run_copyE W1'.drew _ _ ty 30 w.heap.size ((i + 1) * 14) (n - i) dc ⟨g, i * 14, none⟩ (n - i) sc 14 (n - i) (cs.drop (i * 14)) Try.underlying26 hsz (by simp only [Nat.min_def]; split <;> omega) hdl
      (fun j v hj => by
        rw [Addr.add_lit]
        show W1'.cell? _ = _
        rw [hW1, World.cell?_setCells_out _ _ _ _ _ (fun h _ => absurd h hgN)]
        exact hOg _ v (hcc _ v (by rwa [List.getElem?_drop] at hj)))
      (fun j hj => by show (W1'.cell? _).isSome = true; rw [cell_of_row W1' w.heap.size _ cur1 30 (0, 0) e1, Array.getElem?_eq_getElem (by omega)]; rfl)
      (fun j hj => blk_frozen (w := W1') e1 _) (fun v hv => h1c v (List.mem_of_mem_drop hv))
  obtain ⟨W2', hW2⟩ : ∃ W2', W2' = W1'.drew.setCells w.heap.size ((i + 1) * 14) (cs.drop (i * 14)) := ⟨_, rfl⟩
  rw [← hW2] at hcpB
  obtain ⟨cur2, f1, f2, f3⟩ := setCells_row (cs.drop (i * 14)) ((i + 1) * 14) W1'.drew cur1 e1 (by omega)
  rw [← hW2] at f1
  have hfin : Kd.R k30 30 W2' base (fun k_ => ((P0_ k_ ∨ P2_ k_) ∨ w.heap.size ≤ k_)) (.slice (some ⟨w.heap.size, 0, none⟩) (n + 1) G) (l0.take i ++ l2 ++ l0.drop i) := by
    have := R_ins k30 (fun h => h) (W := W2') (e := 30) (base := base) (g := w.heap.size) (cap := G) (i := i) (ok := (fun k_ => ((P0_ k_ ∨ P2_ k_) ∨ w.heap.size ≤ k_))) f1 (by rw [f2, e2]; exact hRl) hGm hbw (.inr (Nat.le_refl _)) hr hr2 (by omega) (by omega) (by
      rw [hn, hm]
      show List.take ((n + 1) * 14) cur2.toList = cs.take (i * 14) ++ cs2 ++ cs.drop (i * 14)
      rw [f3, e3]
      have q := ins_list_grow ROW.toList cs2 (cs.drop (i * 14)) (ROW.toList.drop (i * 14 + cs2.length)) ((ROW.toList.take (i * 14) ++ cs2 ++ ROW.toList.drop (i * 14 + cs2.length)).drop ((i + 1) * 14 + (cs.drop (i * 14)).length)) (i * 14) (by rw [Array.length_toList, hRl]; omega)
      rw [hdl, hcs2, show i * 14 + 14 + (n - i) * 14 = (n + 1) * 14 by omega, show i * 14 + 14 = (i + 1) * 14 by omega] at q
      rw [hdl, hcs2, show i * 14 + 14 = (i + 1) * 14 by omega, q, hRt])
    rw [hn, hm] at this
    exact this
  have hgr : w.grownBy W2' none := by
    obtain ⟨s1, s2, s3, s4⟩ := setCells_same w.heap.size (cs.drop (i * 14)) ((i + 1) * 14) W1'.drew
    obtain ⟨t1, t2, t3, t4⟩ := setCells_same w.heap.size cs2 (i * 14) W0
    rw [← hW2] at s1 s2 s3 s4
    rw [← hW1] at t1 t2 t3 t4
    refine ⟨s1.trans (t1.trans (by rw [hW0]; rfl)), s2.trans (t2.trans (by rw [hW0]; rfl)), s3.trans (t3.trans (by rw [hW0]; rfl)), ?_, fun k hk _ => ?_⟩
    · rw [s4]
      show w.heap.size ≤ W1'.heap.size
      rw [t4, hW0]
      simp
    have hkg : k ≠ w.heap.size := by omega
    rw [hW2, setCells_far _ _ _ hkg]
    show W1'.heap[k]? = _
    rw [hW1, setCells_far _ _ _ hkg, hW0]
    exact heap_alloc_old w.drew _ hk
  have hx2 : ¬ ((i : Int) = (n : Int)) := by omega
  have hx3 : (c : Int) < (n : Int) + 1 := by omega
  have hx4 : ¬ (c = i) := by omega
  have hx6 : ¬ (G = i) := by omega
  have hx7 : ¬ (G = i + 1) := by omega
  have hx9 : (0 : Int) ≤ (i : Int) + 1 := by omega
  have hxa : (i : Int) + 1 ≤ (n : Int) + 1 := by omega
  have hxb : ((i : Int) + 1).toNat = i + 1 := by omega
  have hxc : (i : Int) ≤ (n : Int) := by omega
  have hxd : (i : Int) ≤ (n : Int) + 1 := by omega
  have hxe : i ≤ c := by omega
  have HF := Aside0.mk hfin
  have HG := Aside0.mk hgr
  clear hfin hgr e0 e1 e2 e3 f1 f2 f3 hW0 hW1 hW2 hcell hcv h1c h1v hr hr2 htk hvt hcs hvc hOg hOv hcc hcc2 hold hROW hRl hRt hG hkk hik
  go_enter Try.func20, Try.ntmps20
  go_wp2_with (first
    | (at_builtin; refine Lib.wpList_append_run _ rfl _ _ _ _ rfl _ _ rfl rfl _ _ (hrz _) ?_)
    | (at_builtin; refine list_copyE _ rfl _ _ 26 26 rfl _ _ rfl rfl (hcpA _ _) ?_))
  go_region_law_o (refine step_copyE rfl _ _ 26 26 rfl (.slice (some ⟨w.heap.size, (i + 1) * 14, none⟩) (n - i) (G - (i + 1))) (.slice (some ⟨g, i * 14, none⟩) (n - i) (c - i)) (by simp [Act.eval, Act.put]) (by simp [Act.eval, Act.put]) (hcpB _ _ _) ?_)
  go_wp2
  go_ret
  exact ⟨_, rfl, HF.out, HG.out⟩
theorem impl_Task_20.calls (P0_ : Nat → Prop) (u9000_ : Value) (l0 : List S30) (a1 : Int) (P2_ : Nat → Prop) (u9001_ : Value) (l2 : List S30) (r : List S30) (w0 w : World) (hB : Below w0.heap.size w0 w) (ho0 : Kd.R k30 30 w w0.heap.size P0_ u9000_ l0) (hp0_2 : ∀ k_, P0_ k_ → ¬ P2_ k_) (ho2 : Kd.R k30 30 w w0.heap.size P2_ u9001_ l2) (hp2_0 : ∀ k_, P2_ k_ → ¬ P0_ k_) (h : impl_Task_20.f l0 a1 l2 = some r) :
    Calls Try.prog 20 #[u9000_, .int .i64 a1, u9001_] w fun e w' => ∃ v0_ : Value, e = .returned (v0_) ∧ Kd.R k30 30 w' w0.heap.size (fun k_ => ((P0_ k_ ∨ P2_ k_) ∨ w.heap.size ≤ k_)) v0_ r ∧ Below w0.heap.size w0 w' ∧ Kept w w' (fun k_ => P0_ k_ ∨ P2_ k_) := by
  unfold impl_Task_20.f at h
  by_cases hc : l0.length < 1000000000000 ∧ 0 ≤ a1 ∧ a1 ≤ (l0.length : Int) ∧ l2.length = 1
  · rw [if_pos hc] at h
    obtain rfl := Option.some.inj h
    obtain ⟨hl, ha0, ha1, hm⟩ := hc
    obtain ⟨i, rfl⟩ : ∃ i : Nat, a1 = (i : Int) := ⟨a1.toNat, by omega⟩
    obtain ⟨vb, vc, curv, inv, rfl, hbv, hPv, hvw, hv, hvc, _, hvs, hvt, hr2⟩ := R_open ho2 (by omega)
    rw [hm] at hvc hvt
    have hvsz : 1 * 14 ≤ curv.size := by rw [hvs]; exact Nat.mul_le_mul_right 14 hvc
    rw [Int.toNat_natCast]
    by_cases hin : i = l0.length
    · subst hin
      obtain ⟨A, c, rfl, _, _⟩ := Kd.R_reads ho0
      rw [List.take_length, List.drop_length, List.append_nil]
      rw [hm] at ho2 ⊢
      exact impl_Task_20.atEnd P0_ P2_ A c l0 vb vc l2 w0 w hB ho0 ho2 hl hm
    obtain ⟨g, c, cur, cs, rfl, hbg, hPg, hgw, hh, hnc, hcm, hcs, htk, hr⟩ := R_open ho0 (by omega)
    have hne : vb ≠ g := fun e => hp0_2 g hPg (e ▸ hPv)
    rw [hm]
    by_cases hroom : l0.length + 1 ≤ c
    · refine (impl_Task_20.shift P0_ P2_ g l0.length c i cur l0 cs vb vc curv l2 inv w0.heap.size w w w _ _ _ _ rfl hm hl (by omega) hroom hcm hne hh hcs htk hbg hPg hr hv hvsz hvt hr2).mono ?_
      rintro e w' ⟨rfl, hR, hg⟩
      exact ⟨_, rfl, hR, hB.grown hg hB.size (fun q hq => by injection hq with hq; subst hq; exact hbg), Kept.of_grown hg (Kept.refl _ _) (fun k e => by injection e with e; subst e; exact .inl (.inl hPg))⟩
    refine (impl_Task_20.grow P0_ P2_ g l0.length c i cur l0 cs vb vc curv l2 inv w0.heap.size w w w _ _ _ _ rfl hm hl (by omega) hnc (by omega) hh hcs htk hB.size hr hv hvsz hvt hr2).mono ?_
    rintro e w' ⟨v, rfl, hR, hg⟩
    exact ⟨_, rfl, hR, hB.grown hg hB.size (fun q hq => by cases hq), Kept.of_grown hg (Kept.refl _ _) (fun k e => by cases e)⟩
  rw [if_neg hc] at h
  cases h

/-! ### impl_Task_21: function 21, by hand -/
-- MANUAL rounds=no making=yes
def impl_Task_21.f (l0 : List S30) : Option (List S30) := if l0.length < 1000000000000 then some l0 else none
set_option maxHeartbeats 2000000 in
theorem impl_Task_21.calls (A0 : Option Addr) (c0 : Nat) (l0 : List S30) (r : List S30) (w : World) (hr0 : Kd.C k30 w A0 l0.length l0) (hc0 : l0.length ≤ c0) (h : impl_Task_21.f l0 = some r) :
    Calls Try.prog 21 #[.slice A0 l0.length c0] w fun e w' => ∃ v0_ : Value, e = .returned (v0_) ∧ Kd.R k30 30 w' w.heap.size (fun _ => True) v0_ r ∧ Below w.heap.size w w' := by
  unfold impl_Task_21.f at h
  by_cases hl : l0.length < 1000000000000
  · rw [if_pos hl] at h
    obtain rfl := Option.some.inj h
    clear h
    cases A0 with
    | none =>
      have h0 : l0 = [] := by
        refine List.eq_nil_of_length_eq_zero (Nat.eq_zero_of_not_pos fun z => ?_)
        obtain ⟨ad, e, _⟩ := hr0.2.2 z
        cases e
      subst h0
      have q : ∀ (w : World) (n c n' c' : Nat), (binOp .eql 26 (.slice none n c) (.slice none n' c')).run Try.prog w = .ok (.bool true) w := fun w n c n' c' => Go.Lib.run_eql_slice_nil w _ _ none n c n' c' Try.underlying26
      clear hr0 hc0
      go_enter Try.func21, Try.ntmps21
      go_wp2
      go_ret
      exact ⟨_, rfl, Kd.R_nil _ _ _ _ _, Below.refl _ _⟩
    | some ad =>
      have q : ∀ (w : World) (n c n' c' : Nat), (binOp .eql 26 (.slice (some ad) n c) (.slice none n' c')).run Try.prog w = .ok (.bool false) w := fun w n c n' c' => Go.Lib.run_eql_slice_nil w _ _ (some ad) n c n' c' Try.underlying26
      have HR0 := Aside0.mk hr0
      have HL := Aside0.mk hl
      have HB := aM (Below.refl w.heap.size w)
      clear hr0 hc0 hl
      go_enter Try.func21, Try.ntmps21
      go_wp2_with (first | ((with_reducible refine gate_dst (N := 5) rfl ?_); refine Kd.R_lit k30 _ 30 ?hg (N := 5) ?hd (xs := ([] : List S30)) (inner := []) (ok := fun _ => True) (okp := fun _ => True) ?hr ?hp (fun _ hk => hk) trivial (Below.refl _ _) (Nat.le_refl _) (by simp) ?_; (case hd => rfl); (case hg => rfl); (case hr => first | (go_simp; done) | (go_simp; rfl)); (case hp => exact (Reps.none _ _)); intro v1 w1 ho1 hb hg_ hnew_; clear hg_ hnew_; have n0_ := aM (Kd.R_lower ho1 (below_size HB.out)); have n1_ := aM (below_step HB.out hb); clear HB; have HO1 := n0_; have HB := n1_; clear n0_ n1_; clear hb ho1) | ((with_reducible refine gate_builtin (b := .append) (xs := #[.tmp 5, .tmp 6]) rfl ?_); at_builtin; refine Kd.R_append_rows k30 (w0 := w) w.heap.size rfl (.tmp 5) (.tmp 6) 26 30 (.agg #[(.int .i64 0), (.int .i64 0), (.int .i64 0), (.int .i64 0), (.bool false), (.int .i64 0), (.int .i64 0), (.int .i64 0), (.int .i64 0), (.int .i64 0), (.int .i64 0), (.int .i64 0), (.int .i64 0), (.int .i64 0)]) 112 rfl Try.underlying26 info30 rfl (by decide) (by omega) v1 [] l0 _ _ _ (fun _ => True) (fun _ => False) rfl rfl ?aO ?aR (fun _ _ h => h) (fun _ h => h.elim) (fun _ _ => trivial) ?aB ?aS ?aL ?_; (case aR => exact Kd.C_below HR0.out HB.out); (case aO => exact HO1.out); (case aB => exact HB.out); (case aS => exact below_size HB.out); (case aL => have := HL.out; simp; omega); intro v2 w2 ho hb hg hat; have HB2 := aM hb; have HO2 := aM ho; clear HB HO1 ho hb hg hat))
      go_ret
      exact ⟨_, rfl, by simpa using HO2.out, HB2.out⟩
  rw [if_neg hl] at h
  cases h

end Go.Proofs.Ytbihinhckmfplaa.Print
