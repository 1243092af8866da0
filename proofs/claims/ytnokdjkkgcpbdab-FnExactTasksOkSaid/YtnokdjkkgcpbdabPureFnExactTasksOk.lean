/- The pure statement of FnExactTasksOk: at all arguments the program's TasksOk and the reference's agree, as plain functions over numbers and lists. Conditions: those of the statement (numbers of 64 bits, lists that lie in memory). -/
import Derived.Test.YtnokdjkkgcpbdabPrint29
set_option linter.unusedVariables false
set_option linter.unusedSimpArgs false
namespace Go.Proofs.Ytnokdjkkgcpbdab.Pure
open Go.RowKit Go.Proofs.Ytnokdjkkgcpbdab.Print Go.Proofs.YtnokdjkkgcpbdabW.PrintWords Go.Proofs.YtnokdjkkgcpbdabW.PrintLast Go.Proofs.YtnokdjkkgcpbdabW.PrintMore Go.Proofs.Ytnokdjkkgcpbdab.Base

theorem rd_at (l : List Int) (i : Nat) (h : i < l.length) : rd l (i : Int) = l[i] := by
  unfold rd
  rw [Int.toNat_natCast, List.getD_eq_getElem?_getD, List.getElem?_eq_getElem h, Option.getD_some]
theorem set_step {α : Type} (l : List α) (d : α) (i : Nat) (h : i < l.length) : (l.take i ++ List.replicate (l.length - i) d).set i l[i] = l.take (i + 1) ++ List.replicate (l.length - (i + 1)) d := by
  have hl : (l.take i).length = i := by rw [List.length_take]; omega
  rw [List.set_append_right _ _ (by omega), hl, Nat.sub_self, show l.length - i = (l.length - (i + 1)) + 1 by omega, List.replicate_succ, List.set_cons_zero, List.take_succ_eq_append_getElem h, List.append_assoc]
  rfl
theorem full {α : Type} (l : List α) (d : α) (i : Nat) (h : l.length ≤ i) : l.take i ++ List.replicate (l.length - i) d = l := by
  rw [List.take_of_length_le h, show l.length - i = 0 by omega, List.replicate_zero, List.append_nil]
theorem eqTask_refl (a0 a1 a2 a3 : Int) (a4 : Bool) (a5 a6 a7 a8 a9 a10 a11 a12 a13 : Int) : laws_eqTask.f a0 a1 a2 a3 a4 a5 a6 a7 a8 a9 a10 a11 a12 a13 a0 a1 a2 a3 a4 a5 a6 a7 a8 a9 a10 a11 a12 a13 = some true := by
  unfold laws_eqTask.f
  simp
def toT (x : S23) : S24 := ⟨x.f0, x.f1, x.f2, x.f3, x.f4, x.f5, x.f6, x.f7, x.f8, x.f9, x.f10, x.f11, x.f12, x.f13⟩
theorem rdLT (l : List S23) (i : Nat) (h : i < l.length) : rd_T23 l (i : Int) = l[i] := by
  unfold rd_T23
  rw [Int.toNat_natCast, List.getD_eq_getElem?_getD, List.getElem?_eq_getElem h, Option.getD_some]
theorem map_step {α β : Type} (f : α → β) (l : List α) (d : β) (i : Nat) (h : i < l.length) : ((l.map f).take i ++ List.replicate (l.length - i) d).set i (f l[i]) = (l.map f).take (i + 1) ++ List.replicate (l.length - (i + 1)) d := by
  have := set_step (l.map f) d i (by simpa using h)
  simpa using this
theorem toTasks_loop (l : List S23) (hl : l.length ≤ 1048576) : ∀ (k i : Nat), l.length - i < k → laws_toTaskS.l0 k l ((l.map toT).take i ++ List.replicate (l.length - i) z24) (i : Int) = some (l.map toT) := by
  intro k
  induction k with
  | zero => intro i h; omega
  | succ k ih =>
    intro i h
    simp only [laws_toTaskS.l0, laws_toTask.f, Option.bind_some]
    by_cases hi : i < l.length
    · rw [if_pos (by omega), if_pos (by omega), if_pos (by rw [List.length_append, List.length_take, List.length_replicate, List.length_map]; omega), rdLT l i hi, Int.toNat_natCast, wr _ (by omega) (by omega)]
      have e := map_step toT l z24 i hi
      unfold toT at e ⊢
      rw [e]
      exact ih (i + 1) (by omega)
    · rw [if_neg (by omega)]
      have e := full (l.map toT) z24 i (by rw [List.length_map]; omega)
      rw [List.length_map] at e
      rw [e]
theorem toTasks_ev (l : List S23) (hl : l.length ≤ 1048576) : Ev (fun k => laws_toTaskS.f k l) (l.map toT) := by
  refine Ev.of (fun k => laws_toTaskS.mono l k) (k := l.length + 1) ?_
  unfold laws_toTaskS.f
  rw [if_pos (by omega), if_pos (by simp only [Int.toNat_natCast]; omega), Int.toNat_natCast]
  have := toTasks_loop l hl (l.length + 1) 0 (by omega)
  simpa using this
theorem eqTasks_loop (l : List S24) (hl : l.length ≤ 1048576000) : ∀ (k i : Nat), l.length - i < k → laws_eqTaskS.l0 k l l (i : Int) = some true := by
  intro k
  induction k with
  | zero => intro i h; omega
  | succ k ih =>
    intro i h
    simp only [laws_eqTaskS.l0, eqTask_refl, Option.bind_some]
    by_cases hi : i < l.length
    · rw [if_pos (by omega), if_pos (by omega), if_pos (by omega), if_pos trivial, wr _ (by omega) (by omega)]
      exact ih (i + 1) (by omega)
    · rw [if_neg (by omega)]
theorem eqTasks_ev (l : List S24) (hl : l.length ≤ 1048576000) : Ev (fun k => laws_eqTaskS.f k l l) true := by
  refine Ev.of (fun k => laws_eqTaskS.mono l l k) (k := l.length + 1) ?_
  unfold laws_eqTaskS.f
  rw [if_pos rfl]
  exact eqTasks_loop l hl (l.length + 1) 0 (by omega)
theorem szTasks (l : List S23) (hm : l.length ≤ maxLen) : (l.length ≤ 1048576 ∧ laws_szTaskS.f l 1048576 = some (1048576 - (l.length : Int))) ∨ laws_szTaskS.f l 1048576 = some (-1) := by
  unfold laws_szTaskS.f
  unfold maxLen at hm
  rw [wr _ (by omega) (by omega)]
  by_cases h : 1048576 - (l.length : Int) < 0
  · exact .inr (if_pos h)
  · exact .inl ⟨by omega, if_neg h⟩
/-! Lists of tasks: what is read of them. -/
theorem rdT (l : List S24) (i : Nat) (h : i < l.length) : rd_T24 l (i : Int) = l[i] := by
  unfold rd_T24
  rw [Int.toNat_natCast, List.getD_eq_getElem?_getD, List.getElem?_eq_getElem h, Option.getD_some]
def tOk (t : S24) : Prop := TaskP t.f0 t.f1 t.f2 t.f3 t.f5 t.f6 t.f7 t.f8 t.f9 t.f10 t.f11 t.f12 t.f13
instance (t : S24) : Decidable (tOk t) := by unfold tOk; infer_instance
/-- What makes a list of tasks right from place i on. -/
def tsFrom (l : List S24) (i : Nat) : Prop := (∀ j, i ≤ j → ∀ h : j < l.length, tOk l[j] ∧ (0 < j → (l[j - 1]).f0 < (l[j]).f0)) ∧ l.length ≤ 12
noncomputable instance (l : List S24) (i : Nat) : Decidable (tsFrom l i) := Classical.propDecidable _
theorem tsFrom_end (l : List S24) (i : Nat) (h : ¬ i < l.length) : tsFrom l i ↔ l.length ≤ 12 := ⟨fun x => x.2, fun x => ⟨fun j hj hl => absurd hl (by omega), x⟩⟩
theorem tsFrom_step (l : List S24) (i : Nat) (h : i < l.length) : tsFrom l i ↔ (tOk l[i] ∧ (0 < i → (l[i - 1]).f0 < (l[i]).f0)) ∧ tsFrom l (i + 1) := by
  constructor
  · intro x
    exact ⟨x.1 i (Nat.le_refl _) h, fun j hj hl => x.1 j (by omega) hl, x.2⟩
  · intro x
    refine ⟨fun j hj hl => ?_, x.2.2⟩
    by_cases e : j = i
    · subst e
      exact x.1
    · exact x.2.1 j (by omega) hl
theorem sTasksOk_loop (l : List S24) (hl : l.length ≤ 1048576000) : ∀ (k i : Nat), l.length - i < k → spec_TasksOk.l0 k l (i : Int) = some (decide (tsFrom l i)) := by
  intro k
  induction k with
  | zero => intro i h; omega
  | succ k ih =>
    intro i h
    simp only [spec_TasksOk.l0, spec_TaskOk.f, Option.bind_some]
    by_cases hi : i < l.length
    · rw [if_pos (by omega), if_pos (by omega), rdT l i hi, wr ((i : Int) + 1) (by omega) (by omega)]
      have es := tsFrom_step l i hi
      by_cases ht : tOk l[i]
      · rw [show decide (TaskP (l[i]).f0 (l[i]).f1 (l[i]).f2 (l[i]).f3 (l[i]).f5 (l[i]).f6 (l[i]).f7 (l[i]).f8 (l[i]).f9 (l[i]).f10 (l[i]).f11 (l[i]).f12 (l[i]).f13) = true from decide_eq_true ht, if_pos rfl]
        have en := ih (i + 1) (by omega)
        by_cases h0 : 0 < i
        · rw [if_pos (by omega), wr ((i : Int) - 1) (by omega) (by omega), if_pos (by omega), if_pos (by omega), show (i : Int) - 1 = ((i - 1 : Nat) : Int) by omega, rdT l (i - 1) (by omega)]
          by_cases hc : (l[i - 1]).f0 ≥ (l[i]).f0
          · rw [if_pos hc]
            exact congrArg some (decide_eq_false fun x => by have := (es.1 x).1.2 h0; omega).symm
          · rw [if_neg hc]
            refine en.trans (congrArg some (decide_eq_decide.2 ?_))
            exact ⟨fun x => es.2 ⟨⟨ht, fun _ => by omega⟩, x⟩, fun x => (es.1 x).2⟩
        · rw [if_neg (by omega)]
          refine en.trans (congrArg some (decide_eq_decide.2 ?_))
          exact ⟨fun x => es.2 ⟨⟨ht, fun z => absurd z h0⟩, x⟩, fun x => (es.1 x).2⟩
      · rw [show decide (TaskP (l[i]).f0 (l[i]).f1 (l[i]).f2 (l[i]).f3 (l[i]).f5 (l[i]).f6 (l[i]).f7 (l[i]).f8 (l[i]).f9 (l[i]).f10 (l[i]).f11 (l[i]).f12 (l[i]).f13) = false from decide_eq_false ht, if_neg (by decide)]
        exact congrArg some (decide_eq_false fun x => ht (es.1 x).1.1).symm
    · rw [if_neg (by omega)]
      refine congrArg some (decide_eq_decide.2 ?_)
      rw [tsFrom_end l i hi]
      omega
theorem iTasksOk_loop (l : List S24) (hl : l.length ≤ 1048576000) : ∀ (k i : Nat), l.length - i < k → impl_TasksOk.l0 k l l (l.length : Int) (i : Int) = some (decide (tsFrom l i)) := by
  intro k
  induction k with
  | zero => intro i h; omega
  | succ k ih =>
    intro i h
    simp only [impl_TasksOk.l0, impl_TaskOk.f, Option.bind_some]
    by_cases hi : i < l.length
    · rw [if_pos (by omega), if_pos (by omega), if_pos (by omega), rdT l i hi, wr ((i : Int) + 1) (by omega) (by omega)]
      have es := tsFrom_step l i hi
      by_cases ht : tOk l[i]
      · rw [show decide (TaskP (l[i]).f0 (l[i]).f1 (l[i]).f2 (l[i]).f3 (l[i]).f5 (l[i]).f6 (l[i]).f7 (l[i]).f8 (l[i]).f9 (l[i]).f10 (l[i]).f11 (l[i]).f12 (l[i]).f13) = true from decide_eq_true ht, if_pos rfl]
        have en := ih (i + 1) (by omega)
        by_cases h0 : 0 < i
        · rw [if_pos (by omega), wr ((i : Int) - 1) (by omega) (by omega), if_pos (by omega), if_pos (by omega), show (i : Int) - 1 = ((i - 1 : Nat) : Int) by omega, rdT l (i - 1) (by omega)]
          by_cases hc : (l[i - 1]).f0 ≥ (l[i]).f0
          · rw [if_pos hc]
            exact congrArg some (decide_eq_false fun x => by have := (es.1 x).1.2 h0; omega).symm
          · rw [if_neg hc]
            refine en.trans (congrArg some (decide_eq_decide.2 ?_))
            exact ⟨fun x => es.2 ⟨⟨ht, fun _ => by omega⟩, x⟩, fun x => (es.1 x).2⟩
        · rw [if_neg (by omega)]
          refine en.trans (congrArg some (decide_eq_decide.2 ?_))
          exact ⟨fun x => es.2 ⟨⟨ht, fun z => absurd z h0⟩, x⟩, fun x => (es.1 x).2⟩
      · rw [show decide (TaskP (l[i]).f0 (l[i]).f1 (l[i]).f2 (l[i]).f3 (l[i]).f5 (l[i]).f6 (l[i]).f7 (l[i]).f8 (l[i]).f9 (l[i]).f10 (l[i]).f11 (l[i]).f12 (l[i]).f13) = false from decide_eq_false ht, if_neg (by decide)]
        exact congrArg some (decide_eq_false fun x => ht (es.1 x).1.1).symm
    · rw [if_neg (by omega)]
      refine congrArg some (decide_eq_decide.2 ?_)
      rw [tsFrom_end l i hi]
      omega
theorem sTasksOk_ev (l : List S24) (hl : l.length ≤ 1048576000) : Ev (fun k => spec_TasksOk.f k l) (decide (tsFrom l 0)) := by
  refine Ev.of (fun k => spec_TasksOk.mono l k) (k := l.length + 1) ?_
  unfold spec_TasksOk.f
  exact sTasksOk_loop l hl (l.length + 1) 0 (by omega)
theorem iTasksOk_ev (l : List S24) (hl : l.length ≤ 1048576000) : Ev (fun k => impl_TasksOk.f k l) (decide (tsFrom l 0)) := by
  refine Ev.of (fun k => impl_TasksOk.mono l k) (k := l.length + 1) ?_
  unfold impl_TasksOk.f
  exact iTasksOk_loop l hl (l.length + 1) 0 (by omega)
theorem FnExactTasksOk : laws_FnExactTasksOk.Pure := by
  intro l hm _
  refine Ev.rounds (r := true) ?_
  unfold laws_FnExactTasksOk.f
  rcases szTasks l hm with ⟨hl, e⟩ | e
  · rw [e]
    simp only [Option.bind_some]
    refine evNeg (by omega) ?_
    have ht := toTasks_ev l hl
    have hl2 : (l.map toT).length ≤ 1048576000 := by rw [List.length_map]; omega
    refine Ev.bind ht (Ev.bind (sTasksOk_ev _ hl2) (Ev.bind ht (Ev.bind (iTasksOk_ev _ hl2) ?_)))
    simp only [bne_self_eq_false]
    refine evNeg (by decide) (Ev.bind ht (Ev.bind (eqTasks_ev _ hl2) ?_))
    simp only [if_true]
    exact Ev.now _
  · rw [e]
    simp only [Option.bind_some]
    exact evPos (by omega) (Ev.now _)

end Go.Proofs.Ytnokdjkkgcpbdab.Pure
