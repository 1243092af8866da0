/- The pure statement of FnExactFairSpread: at all arguments the program's FairSpread and the reference's agree, as plain functions over numbers and lists. Conditions: those of the statement (numbers of 64 bits, lists that lie in memory). -/
import Derived.Test.YtnokdjkkgcpbdabPrint36
set_option linter.unusedVariables false
set_option linter.unusedSimpArgs false
namespace Go.Proofs.Ytnokdjkkgcpbdab.Pure
open Go.RowKit Go.Proofs.Ytnokdjkkgcpbdab.Print Go.Proofs.YtnokdjkkgcpbdabW.PrintWords Go.Proofs.YtnokdjkkgcpbdabW.PrintLast Go.Proofs.YtnokdjkkgcpbdabW.PrintMore Go.Proofs.Ytnokdjkkgcpbdab.Base

theorem eqTask_refl (a0 a1 a2 a3 : Int) (a4 : Bool) (a5 a6 a7 a8 a9 a10 a11 a12 a13 : Int) : laws_eqTask.f a0 a1 a2 a3 a4 a5 a6 a7 a8 a9 a10 a11 a12 a13 a0 a1 a2 a3 a4 a5 a6 a7 a8 a9 a10 a11 a12 a13 = some true := by
  unfold laws_eqTask.f
  simp
theorem eqTasks_loop (l : List S24) (hl : l.length ≤ 1048576000) : ∀ (k i : Nat), l.length - i < k → laws_eqTaskS.l0 k l l (i : Int) = some true := by
  intro k
  induction k with
  | zero => intro i h; omega
  | succ k ih =>
    intro i h
    simp only [laws_eqTaskS.l0, eqTask_refl, Option.bind_some]
    by_cases hi : i < l.length
    · rw [if_pos (by omega), if_pos (by omega), if_pos (by omega), if_pos trivial, wr _ (by omega) (by omega)]
      exact ih (i + 1) (by omega)
    · rw [if_neg (by omega)]
theorem eqTasks_ev (l : List S24) (hl : l.length ≤ 1048576000) : Ev (fun k => laws_eqTaskS.f k l l) true := by
  refine Ev.of (fun k => laws_eqTaskS.mono l l k) (k := l.length + 1) ?_
  unfold laws_eqTaskS.f
  rw [if_pos rfl]
  exact eqTasks_loop l hl (l.length + 1) 0 (by omega)
def tOk (t : S24) : Prop := TaskP t.f0 t.f1 t.f2 t.f3 t.f5 t.f6 t.f7 t.f8 t.f9 t.f10 t.f11 t.f12 t.f13
instance (t : S24) : Decidable (tOk t) := by unfold tOk; infer_instance
/-! The least and the greatest V of the fair tasks. -/
def fairT (t : S24) : Prop := tOk t ∧ t.f1 = 3
instance (t : S24) : Decidable (fairT t) := by unfold fairT; infer_instance
/-- The least and the greatest so far; -1, -1 where there was none. -/
def endsOf : List S24 → Int × Int → Int × Int
  | [], p => p
  | t :: r, p => endsOf r (if fairT t then (if p.1 < 0 then t.f13 else if t.f13 < p.1 then t.f13 else p.1, if p.2 > t.f13 then p.2 else t.f13) else p)
/-- What the program keeps: least, greatest, and whether there was one; beside the reference's pair. -/
def Same (p : Int × Int) (q : Int × Int × Bool) : Prop := (q.2.2 = false ∧ q.1 = 0 ∧ q.2.1 = 0 ∧ p = (-1, -1)) ∨ (q.2.2 = true ∧ p = (q.1, q.2.1) ∧ 0 ≤ q.1 ∧ q.1 ≤ q.2.1 ∧ q.2.1 ≤ 100000000)
theorem fairT_v (t : S24) (h : fairT t) : 0 ≤ t.f13 ∧ t.f13 ≤ 100000000 := by
  have := h.1
  unfold tOk TaskP at this
  have := h.2
  omega
theorem isFair_eq (a0 a1 a2 a3 : Int) (a4 : Bool) (a5 a6 a7 a8 a9 a10 a11 a12 a13 : Int) : impl_isFair.f a0 a1 a2 a3 a4 a5 a6 a7 a8 a9 a10 a11 a12 a13 = some (decide (TaskP a0 a1 a2 a3 a5 a6 a7 a8 a9 a10 a11 a12 a13 ∧ a1 = 3)) := by
  unfold impl_isFair.f impl_TaskOk.f
  by_cases h : a1 = 3
  · rw [if_pos h]
    simp [h]
  · rw [if_neg h]
    simp [h]
theorem isFairT (t : S24) : impl_isFair.f t.f0 t.f1 t.f2 t.f3 t.f4 t.f5 t.f6 t.f7 t.f8 t.f9 t.f10 t.f11 t.f12 t.f13 = some (decide (fairT t)) := isFair_eq t.f0 t.f1 t.f2 t.f3 t.f4 t.f5 t.f6 t.f7 t.f8 t.f9 t.f10 t.f11 t.f12 t.f13
/-! Lists of tasks: what is read of them. -/
theorem rdT (l : List S24) (i : Nat) (h : i < l.length) : rd_T24 l (i : Int) = l[i] := by
  unfold rd_T24
  rw [Int.toNat_natCast, List.getD_eq_getElem?_getD, List.getElem?_eq_getElem h, Option.getD_some]
theorem iEnds_loop (l : List S24) (hl : l.length ≤ 1048576000) : ∀ (k i : Nat) (a b : Int) (s : Bool) (p : Int × Int), l.length - i < k → Same p (a, b, s) → ∃ q, impl_ends.l0 k a b s l (l.length : Int) (i : Int) = some q ∧ Same (endsOf (l.drop i) p) q := by
  intro k
  induction k with
  | zero => intro i a b s p h; omega
  | succ k ih =>
    intro i a b s p h hs
    simp only [impl_ends.l0]
    by_cases hi : i < l.length
    · rw [if_pos (by omega), if_pos (by omega), if_pos (by omega), rdT l i hi, wr ((i : Int) + 1) (by omega) (by omega), List.drop_eq_getElem_cons hi, endsOf, isFairT, Option.bind_some]
      have en := fun a b s p => ih (i + 1) a b s p (by omega)
      by_cases ht : fairT l[i]
      · rw [if_pos (decide_eq_true ht), if_pos ht]
        have hv := fairT_v _ ht
        generalize hx : (l[i]).f13 = v at hv
        cases s with
        | true =>
          rw [if_pos rfl]
          refine en _ _ _ _ (.inr ⟨rfl, ?_⟩)
          obtain ⟨h1, _⟩ | ⟨_, h2, h3, h4, h5⟩ := hs
          · cases h1
          · subst h2
            simp only at h3 h4 h5 ⊢
            unfold mn mx
            refine ⟨Prod.ext ?_ ?_, ?_, ?_, ?_⟩
            · simp only
              rw [if_neg (by omega : ¬ a < 0)]
            · simp only
              split <;> split <;> omega
            · split <;> omega
            · split <;> split <;> omega
            · split <;> omega
        | false =>
          rw [if_neg (by decide)]
          refine en _ _ _ _ (.inr ⟨rfl, ?_⟩)
          obtain ⟨_, _, _, h2⟩ | ⟨h1, _⟩ := hs
          · subst h2
            refine ⟨Prod.ext ?_ ?_, ?_, ?_, ?_⟩
            · simp only
              rw [if_pos (by omega)]
            · simp only
              rw [if_neg (by omega)]
            all_goals (simp only; omega)
          · cases h1
      · rw [if_neg (by rw [decide_eq_true_eq]; exact ht), if_neg ht]
        exact en _ _ _ _ hs
    · rw [if_neg (by omega), List.drop_eq_nil_of_le (by omega), endsOf]
      exact ⟨_, rfl, hs⟩
theorem iEnds_ev (l : List S24) (hl : l.length ≤ 1048576000) : ∃ q, Ev (fun k => impl_ends.f k l) q ∧ Same (endsOf l (-1, -1)) q := by
  obtain ⟨q, h, hs⟩ := iEnds_loop l hl (l.length + 1) 0 0 0 false (-1, -1) (by omega) (.inl ⟨rfl, rfl, rfl, rfl⟩)
  exact ⟨q, Ev.of (fun k => impl_ends.mono l k) (k := l.length + 1) h, hs⟩
theorem iSpread_ev (l : List S24) (hl : l.length ≤ 1048576000) : Ev (fun k => impl_FairSpread.f k l) (wrap64 ((endsOf l (-1, -1)).2 - (endsOf l (-1, -1)).1)) := by
  obtain ⟨q, hq, hs⟩ := iEnds_ev l hl
  unfold impl_FairSpread.f
  refine Ev.bind hq (evEq _ (fun _ => rfl) (congrArg some ?_))
  obtain ⟨h1, h2, h3, h4⟩ | ⟨h1, h2, h3, h4, h5⟩ := hs
  · rw [h4, h2, h3]
    rfl
  · rw [h2]
theorem sisFair_eq (a0 a1 a2 a3 : Int) (a4 : Bool) (a5 a6 a7 a8 a9 a10 a11 a12 a13 : Int) : spec_l6Fair.f a0 a1 a2 a3 a4 a5 a6 a7 a8 a9 a10 a11 a12 a13 = some (decide (TaskP a0 a1 a2 a3 a5 a6 a7 a8 a9 a10 a11 a12 a13 ∧ a1 = 3)) := by
  unfold spec_l6Fair.f spec_TaskOk.f
  simp only [Option.bind_some, decide_eq_true_eq]
  by_cases h : TaskP a0 a1 a2 a3 a5 a6 a7 a8 a9 a10 a11 a12 a13
  · simp [h, dBeq]
  · simp [h]
theorem sisFairT (t : S24) : spec_l6Fair.f t.f0 t.f1 t.f2 t.f3 t.f4 t.f5 t.f6 t.f7 t.f8 t.f9 t.f10 t.f11 t.f12 t.f13 = some (decide (fairT t)) := sisFair_eq t.f0 t.f1 t.f2 t.f3 t.f4 t.f5 t.f6 t.f7 t.f8 t.f9 t.f10 t.f11 t.f12 t.f13
theorem smax_eq (a b : Int) : spec_l1Max.f a b = some (if a > b then a else b) := by
  unfold spec_l1Max.f
  split <;> rfl
theorem sSpread_loop (l : List S24) (hl : l.length ≤ 1048576000) : ∀ (k i : Nat) (a b : Int), l.length - i < k → spec_FairSpread.l0 k l a b (i : Int) = some (wrap64 ((endsOf (l.drop i) (a, b)).2 - (endsOf (l.drop i) (a, b)).1)) := by
  intro k
  induction k with
  | zero => intro i a b h; omega
  | succ k ih =>
    intro i a b h
    simp only [spec_FairSpread.l0, smax_eq, Option.bind_some]
    by_cases hi : i < l.length
    · rw [if_pos (by omega), if_pos (by omega), rdT l i hi, wr ((i : Int) + 1) (by omega) (by omega), List.drop_eq_getElem_cons hi, endsOf, sisFairT, Option.bind_some]
      have en := fun a b => ih (i + 1) a b (by omega)
      by_cases ht : fairT l[i]
      · rw [if_pos (decide_eq_true ht), if_pos ht]
        by_cases ha : a < 0
        · simp only [if_pos ha]
          exact en _ _
        · simp only [if_neg ha]
          by_cases hb : (l[i]).f13 < a
          · simp only [if_pos hb]
            exact en _ _
          · simp only [if_neg hb]
            exact en _ _
      · rw [if_neg (by rw [decide_eq_true_eq]; exact ht), if_neg ht]
        exact en _ _
    · rw [if_neg (by omega), List.drop_eq_nil_of_le (by omega), endsOf]
theorem sSpread_ev (l : List S24) (hl : l.length ≤ 1048576000) : Ev (fun k => spec_FairSpread.f k l) (wrap64 ((endsOf l (-1, -1)).2 - (endsOf l (-1, -1)).1)) := by
  refine Ev.of (fun k => spec_FairSpread.mono l k) (k := l.length + 1) ?_
  unfold spec_FairSpread.f
  exact sSpread_loop l hl (l.length + 1) 0 (-1) (-1) (by omega)
theorem szTasks (l : List S23) (hm : l.length ≤ maxLen) : (l.length ≤ 1048576 ∧ laws_szTaskS.f l 1048576 = some (1048576 - (l.length : Int))) ∨ laws_szTaskS.f l 1048576 = some (-1) := by
  unfold laws_szTaskS.f
  unfold maxLen at hm
  rw [wr _ (by omega) (by omega)]
  by_cases h : 1048576 - (l.length : Int) < 0
  · exact .inr (if_pos h)
  · exact .inl ⟨by omega, if_neg h⟩
def toT (x : S23) : S24 := ⟨x.f0, x.f1, x.f2, x.f3, x.f4, x.f5, x.f6, x.f7, x.f8, x.f9, x.f10, x.f11, x.f12, x.f13⟩
theorem full {α : Type} (l : List α) (d : α) (i : Nat) (h : l.length ≤ i) : l.take i ++ List.replicate (l.length - i) d = l := by
  rw [List.take_of_length_le h, show l.length - i = 0 by omega, List.replicate_zero, List.append_nil]
theorem set_step {α : Type} (l : List α) (d : α) (i : Nat) (h : i < l.length) : (l.take i ++ List.replicate (l.length - i) d).set i l[i] = l.take (i + 1) ++ List.replicate (l.length - (i + 1)) d := by
  have hl : (l.take i).length = i := by rw [List.length_take]; omega
  rw [List.set_append_right _ _ (by omega), hl, Nat.sub_self, show l.length - i = (l.length - (i + 1)) + 1 by omega, List.replicate_succ, List.set_cons_zero, List.take_succ_eq_append_getElem h, List.append_assoc]
  rfl
theorem map_step {α β : Type} (f : α → β) (l : List α) (d : β) (i : Nat) (h : i < l.length) : ((l.map f).take i ++ List.replicate (l.length - i) d).set i (f l[i]) = (l.map f).take (i + 1) ++ List.replicate (l.length - (i + 1)) d := by
  have := set_step (l.map f) d i (by simpa using h)
  simpa using this
theorem rdLT (l : List S23) (i : Nat) (h : i < l.length) : rd_T23 l (i : Int) = l[i] := by
  unfold rd_T23
  rw [Int.toNat_natCast, List.getD_eq_getElem?_getD, List.getElem?_eq_getElem h, Option.getD_some]
theorem toTasks_loop (l : List S23) (hl : l.length ≤ 1048576) : ∀ (k i : Nat), l.length - i < k → laws_toTaskS.l0 k l ((l.map toT).take i ++ List.replicate (l.length - i) z24) (i : Int) = some (l.map toT) := by
  intro k
  induction k with
  | zero => intro i h; omega
  | succ k ih =>
    intro i h
    simp only [laws_toTaskS.l0, laws_toTask.f, Option.bind_some]
    by_cases hi : i < l.length
    · rw [if_pos (by omega), if_pos (by omega), if_pos (by rw [List.length_append, List.length_take, List.length_replicate, List.length_map]; omega), rdLT l i hi, Int.toNat_natCast, wr _ (by omega) (by omega)]
      have e := map_step toT l z24 i hi
      unfold toT at e ⊢
      rw [e]
      exact ih (i + 1) (by omega)
    · rw [if_neg (by omega)]
      have e := full (l.map toT) z24 i (by rw [List.length_map]; omega)
      rw [List.length_map] at e
      rw [e]
theorem toTasks_ev (l : List S23) (hl : l.length ≤ 1048576) : Ev (fun k => laws_toTaskS.f k l) (l.map toT) := by
  refine Ev.of (fun k => laws_toTaskS.mono l k) (k := l.length + 1) ?_
  unfold laws_toTaskS.f
  rw [if_pos (by omega), if_pos (by simp only [Int.toNat_natCast]; omega), Int.toNat_natCast]
  have := toTasks_loop l hl (l.length + 1) 0 (by omega)
  simpa using this
theorem FnExactFairSpread : laws_FnExactFairSpread.Pure := by
  intro l hm _
  refine Ev.rounds (r := true) ?_
  unfold laws_FnExactFairSpread.f
  rcases szTasks l hm with ⟨hl, e⟩ | e
  · rw [e]
    simp only [Option.bind_some]
    refine evNeg (by omega) ?_
    have ht := toTasks_ev l hl
    have hl2 : (l.map toT).length ≤ 1048576000 := by rw [List.length_map]; omega
    refine Ev.bind ht (Ev.bind (sSpread_ev _ hl2) (Ev.bind ht (Ev.bind (iSpread_ev _ hl2) ?_)))
    refine evPos rfl (Ev.bind ht (Ev.bind (eqTasks_ev _ hl2) ?_))
    simp only [if_true]
    exact Ev.now _
  · rw [e]
    simp only [Option.bind_some]
    exact evPos (by omega) (Ev.now _)

end Go.Proofs.Ytnokdjkkgcpbdab.Pure
