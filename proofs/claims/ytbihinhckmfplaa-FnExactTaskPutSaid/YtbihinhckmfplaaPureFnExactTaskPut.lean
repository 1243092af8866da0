/- The pure statement of FnExactTaskPut: at all arguments the program's TaskPut and the reference's agree, as plain functions over numbers and lists. Conditions: those of the statement (numbers of 64 bits, lists that lie in memory). -/
import Derived.Test.YtbihinhckmfplaaPrintLawsFnExactTaskPut
set_option linter.unusedVariables false
set_option linter.unusedSimpArgs false
namespace Go.Proofs.Ytbihinhckmfplaa.Pure
open Go.RowKit Go.Proofs.Ytbihinhckmfplaa.Print Go.Proofs.YtbihinhckmfplaaW.PrintWords Go.Proofs.YtbihinhckmfplaaW.PrintLast Go.Proofs.YtbihinhckmfplaaW.PrintMore Go.Proofs.Ytbihinhckmfplaa.Base

theorem eqTask_refl (a0 a1 a2 a3 : Int) (a4 : Bool) (a5 a6 a7 a8 a9 a10 a11 a12 a13 : Int) : laws_eqTask.f a0 a1 a2 a3 a4 a5 a6 a7 a8 a9 a10 a11 a12 a13 a0 a1 a2 a3 a4 a5 a6 a7 a8 a9 a10 a11 a12 a13 = some true := by
  unfold laws_eqTask.f
  simp
theorem eqTasks_loop (l : List S30) (hl : l.length ≤ 1048576000) : ∀ (k i : Nat), l.length - i < k → laws_eqTaskS.l0 k l l (i : Int) = some true := by
  intro k
  induction k with
  | zero => intro i h; omega
  | succ k ih =>
    intro i h
    simp only [laws_eqTaskS.l0, eqTask_refl, Option.bind_some]
    by_cases hi : i < l.length
    · rw [if_pos (by omega), if_pos (by omega), if_pos (by omega), if_pos trivial, wr _ (by omega) (by omega)]
      exact ih (i + 1) (by omega)
    · rw [if_neg (by omega)]
theorem eqTasks_ev (l : List S30) (hl : l.length ≤ 1048576000) : Ev (fun k => laws_eqTaskS.f k l l) true := by
  refine Ev.of (fun k => laws_eqTaskS.mono l l k) (k := l.length + 1) ?_
  unfold laws_eqTaskS.f
  rw [if_pos rfl]
  exact eqTasks_loop l hl (l.length + 1) 0 (by omega)
def nx (x : Int) : Int := wrap64 (x + 1)
def markT (x : Int) : S30 := ⟨x, nx x, nx (nx x), nx (nx (nx x)), (Int.tmod (nx (nx (nx (nx x)))) 3) == 0, nx (nx (nx (nx (nx x)))), nx (nx (nx (nx (nx (nx x))))), nx (nx (nx (nx (nx (nx (nx x)))))), nx (nx (nx (nx (nx (nx (nx (nx x))))))), nx (nx (nx (nx (nx (nx (nx (nx (nx x)))))))), nx (nx (nx (nx (nx (nx (nx (nx (nx (nx x))))))))), nx (nx (nx (nx (nx (nx (nx (nx (nx (nx (nx x)))))))))), nx (nx (nx (nx (nx (nx (nx (nx (nx (nx (nx (nx x))))))))))), nx (nx (nx (nx (nx (nx (nx (nx (nx (nx (nx (nx (nx x))))))))))))⟩
def nx14 (x : Int) : Int := nx (nx (nx (nx (nx (nx (nx (nx (nx (nx (nx (nx (nx (nx x)))))))))))))
/-! Lists of tasks: what is read of them. -/
theorem rdT (l : List S30) (i : Nat) (h : i < l.length) : rd_T30 l (i : Int) = l[i] := by
  unfold rd_T30
  rw [Int.toNat_natCast, List.getD_eq_getElem?_getD, List.getElem?_eq_getElem h, Option.getD_some]
theorem heldT_step (k : Nat) (l : List S30) (x : Int) (i : Nat) (h : i < l.length) (e : l[i] = markT x) : laws_heldTaskS.l0 (k + 1) l x (i : Int) = laws_heldTaskS.l0 k l (nx14 x) (wrap64 ((i : Int) + 1)) := by
  simp only [laws_heldTaskS.l0]
  rw [if_pos (by omega), if_pos (by omega), rdT l i h, e]
  simp only [markT, nx, nx14, eq_self, if_true, bne_self_eq_false, Bool.false_eq_true, if_false]
theorem rdT_set (l : List S30) (i : Nat) (h : i < l.length) (v : S30) : rd_T30 (l.set i v) (i : Int) = v := by
  rw [rdT _ i (by rw [List.length_set]; exact h), List.getElem_set_self]
theorem markT_step (k : Nat) (l : List S30) (x : Int) (i : Nat) (h : i < l.length) : laws_markTaskS.l0 (k + 1) l x (i : Int) = laws_markTaskS.l0 k (l.set i (markT x)) (nx14 x) (wrap64 ((i : Int) + 1)) := by
  simp only [laws_markTaskS.l0]
  rw [if_pos (by omega), if_pos (by omega)]
  simp only [Option.bind_some, Int.toNat_natCast, List.set_set, rdT_set l i h]
  rfl
theorem nx_eq (x : Int) (h0 : 0 ≤ x) (h1 : x < 4611686018427387904) : nx x = x + 1 := wr _ (by omega) (by omega)
theorem nx14_eq (x : Int) (h0 : 0 ≤ x) (h1 : x < 4611686018427380000) : nx14 x = x + 14 := by
  unfold nx14
  rw [nx_eq x (by omega) (by omega), nx_eq (x + 1) (by omega) (by omega), nx_eq (x + 1 + 1) (by omega) (by omega), nx_eq (x + 1 + 1 + 1) (by omega) (by omega), nx_eq (x + 1 + 1 + 1 + 1) (by omega) (by omega), nx_eq (x + 1 + 1 + 1 + 1 + 1) (by omega) (by omega), nx_eq (x + 1 + 1 + 1 + 1 + 1 + 1) (by omega) (by omega), nx_eq (x + 1 + 1 + 1 + 1 + 1 + 1 + 1) (by omega) (by omega), nx_eq (x + 1 + 1 + 1 + 1 + 1 + 1 + 1 + 1) (by omega) (by omega), nx_eq (x + 1 + 1 + 1 + 1 + 1 + 1 + 1 + 1 + 1) (by omega) (by omega), nx_eq (x + 1 + 1 + 1 + 1 + 1 + 1 + 1 + 1 + 1 + 1) (by omega) (by omega), nx_eq (x + 1 + 1 + 1 + 1 + 1 + 1 + 1 + 1 + 1 + 1 + 1) (by omega) (by omega), nx_eq (x + 1 + 1 + 1 + 1 + 1 + 1 + 1 + 1 + 1 + 1 + 1 + 1) (by omega) (by omega), nx_eq (x + 1 + 1 + 1 + 1 + 1 + 1 + 1 + 1 + 1 + 1 + 1 + 1 + 1) (by omega) (by omega)]
  omega
theorem marks_loop : ∀ (d i : Nat) (l : List S30) (x : Int), l.length ≤ 1048577000 → l.length - i = d → i ≤ l.length → 0 ≤ x → x + 14 * (d : Int) ≤ 4611686018427370000 → ∃ r : Int × List S30, Ev (fun k => laws_markTaskS.l0 k l x (i : Int)) r ∧ Ev (fun k => laws_heldTaskS.l0 k r.2 x (i : Int)) r.1 ∧ 0 ≤ r.1 ∧ r.2.length = l.length ∧ ∀ j, j < i → r.2[j]? = l[j]? := by
  intro d
  induction d with
  | zero =>
    intro i l x hl hd hi h0 h1
    refine ⟨(x, l), ?_, ?_, h0, rfl, fun _ _ => rfl⟩
    · refine Ev.step (fun k => by simp only [laws_markTaskS.l0]; rfl) ?_
      exact evNeg (by omega) (Ev.now _)
    · refine Ev.step (fun k => by simp only [laws_heldTaskS.l0]; rfl) ?_
      exact evNeg (by omega) (Ev.now _)
  | succ d ih =>
    intro i l x hl hd hi h0 h1
    have hi2 : i < l.length := by omega
    have e : wrap64 ((i : Int) + 1) = ((i + 1 : Nat) : Int) := by rw [wr _ (by omega) (by omega)]; omega
    have hx := nx14_eq x h0 (by omega)
    obtain ⟨r, h2, h3, h4, h5, h6⟩ := ih (i + 1) (l.set i (markT x)) (nx14 x) (by rw [List.length_set]; exact hl) (by rw [List.length_set]; omega) (by rw [List.length_set]; omega) (by omega) (by omega)
    rw [List.length_set] at h5
    have hr : i < r.2.length := by omega
    have hv : r.2[i] = markT x := by
      have := h6 i (by omega)
      rw [List.getElem?_set_self hi2, List.getElem?_eq_getElem hr] at this
      exact Option.some.inj this
    refine ⟨r, ?_, ?_, h4, h5, ?_⟩
    · refine Ev.step (fun k => markT_step k l x i hi2) ?_
      rw [e]
      exact h2
    · refine Ev.step (fun k => heldT_step k r.2 x i hr hv) ?_
      rw [e]
      exact h3
    · intro j hj
      rw [h6 j (by omega), List.getElem?_set_ne (by omega)]
/-- What is marked is held. -/
theorem marks_ev (l : List S30) (hl : l.length ≤ 1048577000) : ∃ r : Int × List S30, Ev (fun k => laws_markTaskS.f k l 1) r ∧ Ev (fun k => laws_heldTaskS.f k r.2 1) r.1 ∧ 0 ≤ r.1 := by
  obtain ⟨r, h1, h2, h3, _⟩ := marks_loop l.length 0 l 1 hl (by omega) (by omega) (by omega) (by omega)
  exact ⟨r, h1, h2, h3⟩
theorem szTasks (l : List S24) (hm : l.length ≤ maxLen) : (l.length ≤ 1048576 ∧ laws_szTaskS.f l 1048576 = some (1048576 - (l.length : Int))) ∨ laws_szTaskS.f l 1048576 = some (-1) := by
  unfold laws_szTaskS.f
  unfold maxLen at hm
  rw [wr _ (by omega) (by omega)]
  by_cases h : 1048576 - (l.length : Int) < 0
  · exact .inr (if_pos h)
  · exact .inl ⟨by omega, if_neg h⟩
def tOk (t : S30) : Prop := TaskP t.f0 t.f1 t.f2 t.f3 t.f5 t.f6 t.f7 t.f8 t.f9 t.f10 t.f11 t.f12 t.f13
instance (t : S30) : Decidable (tOk t) := by unfold tOk; infer_instance
/-- What makes a list of tasks right from place i on. -/
def tsFrom (l : List S30) (i : Nat) : Prop := (∀ j, i ≤ j → ∀ h : j < l.length, tOk l[j] ∧ (0 < j → (l[j - 1]).f0 < (l[j]).f0)) ∧ l.length ≤ 12
noncomputable instance (l : List S30) (i : Nat) : Decidable (tsFrom l i) := Classical.propDecidable _
theorem tsFrom_end (l : List S30) (i : Nat) (h : ¬ i < l.length) : tsFrom l i ↔ l.length ≤ 12 := ⟨fun x => x.2, fun x => ⟨fun j hj hl => absurd hl (by omega), x⟩⟩
theorem tsFrom_step (l : List S30) (i : Nat) (h : i < l.length) : tsFrom l i ↔ (tOk l[i] ∧ (0 < i → (l[i - 1]).f0 < (l[i]).f0)) ∧ tsFrom l (i + 1) := by
  constructor
  · intro x
    exact ⟨x.1 i (Nat.le_refl _) h, fun j hj hl => x.1 j (by omega) hl, x.2⟩
  · intro x
    refine ⟨fun j hj hl => ?_, x.2.2⟩
    by_cases e : j = i
    · subst e
      exact x.1
    · exact x.2.1 j (by omega) hl
theorem iTasksOk_loop (l : List S30) (hl : l.length ≤ 1048576000) : ∀ (k i : Nat), l.length - i < k → impl_TasksOk.l0 k l l (l.length : Int) (i : Int) = some (decide (tsFrom l i)) := by
  intro k
  induction k with
  | zero => intro i h; omega
  | succ k ih =>
    intro i h
    simp only [impl_TasksOk.l0, impl_TaskOk.f, Option.bind_some]
    by_cases hi : i < l.length
    · rw [if_pos (by omega), if_pos (by omega), if_pos (by omega), rdT l i hi, wr ((i : Int) + 1) (by omega) (by omega)]
      have es := tsFrom_step l i hi
      by_cases ht : tOk l[i]
      · rw [show decide (TaskP (l[i]).f0 (l[i]).f1 (l[i]).f2 (l[i]).f3 (l[i]).f5 (l[i]).f6 (l[i]).f7 (l[i]).f8 (l[i]).f9 (l[i]).f10 (l[i]).f11 (l[i]).f12 (l[i]).f13) = true from decide_eq_true ht, if_pos rfl]
        have en := ih (i + 1) (by omega)
        by_cases h0 : 0 < i
        · rw [if_pos (by omega), wr ((i : Int) - 1) (by omega) (by omega), if_pos (by omega), if_pos (by omega), show (i : Int) - 1 = ((i - 1 : Nat) : Int) by omega, rdT l (i - 1) (by omega)]
          by_cases hc : (l[i - 1]).f0 ≥ (l[i]).f0
          · rw [if_pos hc]
            exact congrArg some (decide_eq_false fun x => by have := (es.1 x).1.2 h0; omega).symm
          · rw [if_neg hc]
            refine en.trans (congrArg some (decide_eq_decide.2 ?_))
            exact ⟨fun x => es.2 ⟨⟨ht, fun _ => by omega⟩, x⟩, fun x => (es.1 x).2⟩
        · rw [if_neg (by omega)]
          refine en.trans (congrArg some (decide_eq_decide.2 ?_))
          exact ⟨fun x => es.2 ⟨⟨ht, fun z => absurd z h0⟩, x⟩, fun x => (es.1 x).2⟩
      · rw [show decide (TaskP (l[i]).f0 (l[i]).f1 (l[i]).f2 (l[i]).f3 (l[i]).f5 (l[i]).f6 (l[i]).f7 (l[i]).f8 (l[i]).f9 (l[i]).f10 (l[i]).f11 (l[i]).f12 (l[i]).f13) = false from decide_eq_false ht, if_neg (by decide)]
        exact congrArg some (decide_eq_false fun x => ht (es.1 x).1.1).symm
    · rw [if_neg (by omega)]
      refine congrArg some (decide_eq_decide.2 ?_)
      rw [tsFrom_end l i hi]
      omega
theorem iTasksOk_ev (l : List S30) (hl : l.length ≤ 1048576000) : Ev (fun k => impl_TasksOk.f k l) (decide (tsFrom l 0)) := by
  refine Ev.of (fun k => impl_TasksOk.mono l k) (k := l.length + 1) ?_
  unfold impl_TasksOk.f
  exact iTasksOk_loop l hl (l.length + 1) 0 (by omega)
noncomputable def putR (l : List S30) (p : Nat) (x : S30) : List S30 × Bool := if tsFrom (l.take p ++ [x] ++ l.drop p) 0 then (l.take p ++ [x] ++ l.drop p, true) else (l, false)
theorem putI_end (l : List S30) (hl : l.length ≤ 1000) (i : Nat) (hi : i ≤ l.length) (a0 a1 a2 a3 : Int) (a4 : Bool) (a5 a6 a7 a8 a9 a10 a11 a12 a13 : Int) : Ev (fun k => impl_TaskPut.j1 k l (i : Int) a0 a1 a2 a3 a4 a5 a6 a7 a8 a9 a10 a11 a12 a13) (putR l i ⟨a0, a1, a2, a3, a4, a5, a6, a7, a8, a9, a10, a11, a12, a13⟩) := by
  refine Ev.step (fun k => by simp only [impl_TaskPut.j1, impl_Task_21.f, impl_Task_20.f]; rfl) ?_
  rw [if_pos (show l.length < 1000000000000 by omega)]
  simp only [Option.bind_some]
  rw [if_pos (show l.length < 1000000000000 ∧ 0 ≤ (i : Int) ∧ (i : Int) ≤ (l.length : Int) ∧ [(⟨a0, a1, a2, a3, a4, a5, a6, a7, a8, a9, a10, a11, a12, a13⟩ : S30)].length = 1 from ⟨by omega, by omega, by omega, rfl⟩)]
  simp only [Option.bind_some, Int.toNat_natCast]
  refine Ev.bind (iTasksOk_ev _ (by simp only [List.length_append, List.length_take, List.length_drop, List.length_singleton]; omega)) ?_
  unfold putR
  by_cases h : tsFrom (l.take i ++ [⟨a0, a1, a2, a3, a4, a5, a6, a7, a8, a9, a10, a11, a12, a13⟩] ++ l.drop i) 0
  · rw [if_pos h]
    exact evPos (decide_eq_true h) (Ev.now _)
  · rw [if_neg h]
    exact evNeg (by rw [decide_eq_true_eq]; exact h) (Ev.now _)
theorem sTasksOk_loop (l : List S30) (hl : l.length ≤ 1048576000) : ∀ (k i : Nat), l.length - i < k → spec_TasksOk.l0 k l (i : Int) = some (decide (tsFrom l i)) := by
  intro k
  induction k with
  | zero => intro i h; omega
  | succ k ih =>
    intro i h
    simp only [spec_TasksOk.l0, spec_TaskOk.f, Option.bind_some]
    by_cases hi : i < l.length
    · rw [if_pos (by omega), if_pos (by omega), rdT l i hi, wr ((i : Int) + 1) (by omega) (by omega)]
      have es := tsFrom_step l i hi
      by_cases ht : tOk l[i]
      · rw [show decide (TaskP (l[i]).f0 (l[i]).f1 (l[i]).f2 (l[i]).f3 (l[i]).f5 (l[i]).f6 (l[i]).f7 (l[i]).f8 (l[i]).f9 (l[i]).f10 (l[i]).f11 (l[i]).f12 (l[i]).f13) = true from decide_eq_true ht, if_pos rfl]
        have en := ih (i + 1) (by omega)
        by_cases h0 : 0 < i
        · rw [if_pos (by omega), wr ((i : Int) - 1) (by omega) (by omega), if_pos (by omega), if_pos (by omega), show (i : Int) - 1 = ((i - 1 : Nat) : Int) by omega, rdT l (i - 1) (by omega)]
          by_cases hc : (l[i - 1]).f0 ≥ (l[i]).f0
          · rw [if_pos hc]
            exact congrArg some (decide_eq_false fun x => by have := (es.1 x).1.2 h0; omega).symm
          · rw [if_neg hc]
            refine en.trans (congrArg some (decide_eq_decide.2 ?_))
            exact ⟨fun x => es.2 ⟨⟨ht, fun _ => by omega⟩, x⟩, fun x => (es.1 x).2⟩
        · rw [if_neg (by omega)]
          refine en.trans (congrArg some (decide_eq_decide.2 ?_))
          exact ⟨fun x => es.2 ⟨⟨ht, fun z => absurd z h0⟩, x⟩, fun x => (es.1 x).2⟩
      · rw [show decide (TaskP (l[i]).f0 (l[i]).f1 (l[i]).f2 (l[i]).f3 (l[i]).f5 (l[i]).f6 (l[i]).f7 (l[i]).f8 (l[i]).f9 (l[i]).f10 (l[i]).f11 (l[i]).f12 (l[i]).f13) = false from decide_eq_false ht, if_neg (by decide)]
        exact congrArg some (decide_eq_false fun x => ht (es.1 x).1.1).symm
    · rw [if_neg (by omega)]
      refine congrArg some (decide_eq_decide.2 ?_)
      rw [tsFrom_end l i hi]
      omega
theorem sTasksOk_ev (l : List S30) (hl : l.length ≤ 1048576000) : Ev (fun k => spec_TasksOk.f k l) (decide (tsFrom l 0)) := by
  refine Ev.of (fun k => spec_TasksOk.mono l k) (k := l.length + 1) ?_
  unfold spec_TasksOk.f
  exact sTasksOk_loop l hl (l.length + 1) 0 (by omega)
theorem putS_end (l x6 : List S30) (hl : l.length ≤ 1000) (h6 : x6.length ≤ l.length + 1) : Ev (fun k => (spec_TasksOk.f k x6).bind fun t => (if t = true then (some (x6, true)) else ((some (([] : List (S30)) : List (S30))).bind fun y => (if y.length + l.length < 1256584717458 then (some ((y ++ l), false)) else (none))))) (if tsFrom x6 0 then (x6, true) else (l, false)) := by
  refine Ev.bind (sTasksOk_ev x6 (by omega)) ?_
  by_cases h : tsFrom x6 0
  · rw [if_pos h]
    exact evPos (decide_eq_true h) (Ev.now _)
  · rw [if_neg h]
    refine evNeg (by rw [decide_eq_true_eq]; exact h) ?_
    simp only [Option.bind_some]
    exact evPos (by simp only [List.length_nil]; omega) (Ev.now _)
theorem putS_two (l : List S30) (hl : l.length ≤ 1000) (a0 a1 a2 a3 : Int) (a4 : Bool) (a5 a6 a7 a8 a9 a10 a11 a12 a13 : Int) : ∀ (d i : Nat) (x6 : List S30), l.length - i = d → i ≤ l.length → x6.length ≤ i + 1 → Ev (fun k => spec_TaskPut.l0 k l x6 true (i : Int) a0 a1 a2 a3 a4 a5 a6 a7 a8 a9 a10 a11 a12 a13) (if tsFrom (x6 ++ l.drop i) 0 then (x6 ++ l.drop i, true) else (l, false)) := by
  intro d
  induction d with
  | zero =>
    intro i x6 hd hi hx
    refine Ev.step (fun k => by simp only [spec_TaskPut.l0]; rfl) ?_
    refine evNeg (by omega) (evPos trivial ?_)
    rw [List.drop_eq_nil_of_le (by omega), List.append_nil]
    exact putS_end l x6 hl (by omega)
  | succ d ih =>
    intro i x6 hd hi hx
    have hi2 : i < l.length := by omega
    have e : wrap64 ((i : Int) + 1) = ((i + 1 : Nat) : Int) := by rw [wr _ (by omega) (by omega)]; omega
    refine Ev.step (fun k => by simp only [spec_TaskPut.l0]; rfl) ?_
    refine evPos (by omega) (evPos trivial (evPos (by omega) (evPos (by omega) ?_)))
    rw [e, rdT l i hi2]
    have q := ih (i + 1) (x6 ++ [l[i]]) (by omega) (by omega) (by rw [List.length_append, List.length_singleton]; omega)
    rw [List.append_assoc, List.singleton_append, List.getElem_cons_drop] at q
    exact q
theorem put_both (l : List S30) (hl : l.length ≤ 1000) (a0 a1 a2 a3 : Int) (a4 : Bool) (a5 a6 a7 a8 a9 a10 a11 a12 a13 : Int) : ∀ (d i : Nat), l.length - i = d → i ≤ l.length → ∃ p, p ≤ l.length ∧ Ev (fun k => spec_TaskPut.l0 k l (l.take i) false (i : Int) a0 a1 a2 a3 a4 a5 a6 a7 a8 a9 a10 a11 a12 a13) (putR l p ⟨a0, a1, a2, a3, a4, a5, a6, a7, a8, a9, a10, a11, a12, a13⟩) ∧ Ev (fun k => impl_TaskPut.l0 k l (i : Int) a0 a1 a2 a3 a4 a5 a6 a7 a8 a9 a10 a11 a12 a13) (putR l p ⟨a0, a1, a2, a3, a4, a5, a6, a7, a8, a9, a10, a11, a12, a13⟩) := by
  intro d
  induction d with
  | zero =>
    intro i hd hi
    have e : i = l.length := by omega
    subst e
    have hi2 := putI_end l hl l.length (Nat.le_refl _) a0 a1 a2 a3 a4 a5 a6 a7 a8 a9 a10 a11 a12 a13
    refine ⟨l.length, Nat.le_refl _, ?_, ?_⟩
    · refine Ev.step (fun k => by simp only [spec_TaskPut.l0]; rfl) ?_
      refine evNeg (by omega) (evNeg (by decide) (evPos (by rw [List.length_take]; omega) ?_))
      simp only [Option.bind_some]
      have q := putS_end l (l.take l.length ++ [⟨a0, a1, a2, a3, a4, a5, a6, a7, a8, a9, a10, a11, a12, a13⟩]) hl (by simp only [List.length_append, List.length_take, List.length_singleton]; omega)
      unfold putR
      rw [List.drop_length, List.append_nil]
      exact q
    · refine Ev.step (fun k => by simp only [impl_TaskPut.l0]; rfl) ?_
      exact evNeg (by omega) hi2
  | succ d ih =>
    intro i hd hi
    have hi2 : i < l.length := by omega
    have e : wrap64 ((i : Int) + 1) = ((i + 1 : Nat) : Int) := by rw [wr _ (by omega) (by omega)]; omega
    by_cases hc : (l[i]).f0 < a0
    · obtain ⟨p, hp, h1, h2⟩ := ih (i + 1) (by omega) (by omega)
      refine ⟨p, hp, ?_, ?_⟩
      · refine Ev.step (fun k => by simp only [spec_TaskPut.l0]; rfl) ?_
        refine evPos (by omega) (evNeg (by decide) (evPos (by omega) ?_))
        rw [e, rdT l i hi2]
        refine evNeg (by omega) (evPos (by rw [List.length_take]; omega) ?_)
        rw [List.take_succ_eq_append_getElem hi2] at h1
        exact h1
      · refine Ev.step (fun k => by simp only [impl_TaskPut.l0]; rfl) ?_
        refine evPos (by omega) (evPos (by omega) ?_)
        rw [e, rdT l i hi2]
        exact evPos hc h2
    · refine ⟨i, hi, ?_, ?_⟩
      · refine Ev.step (fun k => by simp only [spec_TaskPut.l0]; rfl) ?_
        refine evPos (by omega) (evNeg (by decide) (evPos (by omega) ?_))
        rw [e, rdT l i hi2]
        refine evPos (by omega) (evPos (by rw [List.length_take]; omega) ?_)
        simp only [Option.bind_some]
        refine evPos (by simp only [List.length_append, List.length_take, List.length_singleton]; omega) ?_
        have q := putS_two l hl a0 a1 a2 a3 a4 a5 a6 a7 a8 a9 a10 a11 a12 a13 (l.length - (i + 1)) (i + 1) (l.take i ++ [⟨a0, a1, a2, a3, a4, a5, a6, a7, a8, a9, a10, a11, a12, a13⟩] ++ [l[i]]) rfl (by omega) (by simp only [List.length_append, List.length_take, List.length_singleton]; omega)
        rw [List.append_assoc _ [l[i]], List.singleton_append, List.getElem_cons_drop] at q
        exact q
      · refine Ev.step (fun k => by simp only [impl_TaskPut.l0]; rfl) ?_
        refine evPos (by omega) (evPos (by omega) ?_)
        rw [rdT l i hi2]
        exact evNeg hc (putI_end l hl i hi a0 a1 a2 a3 a4 a5 a6 a7 a8 a9 a10 a11 a12 a13)
/-- Both answer alike; and what the answer is. -/
theorem taskPut_both (l : List S30) (hl : l.length ≤ 1048576000) (a0 a1 a2 a3 : Int) (a4 : Bool) (a5 a6 a7 a8 a9 a10 a11 a12 a13 : Int) : ∃ r : List S30 × Bool, Ev (fun k => spec_TaskPut.f k l a0 a1 a2 a3 a4 a5 a6 a7 a8 a9 a10 a11 a12 a13) r ∧ Ev (fun k => impl_TaskPut.f k l a0 a1 a2 a3 a4 a5 a6 a7 a8 a9 a10 a11 a12 a13) r ∧ (r.2 = true → ∃ p, p ≤ l.length ∧ r.1 = l.take p ++ [⟨a0, a1, a2, a3, a4, a5, a6, a7, a8, a9, a10, a11, a12, a13⟩] ++ l.drop p ∧ tsFrom l 0 ∧ tsFrom r.1 0) ∧ (r.2 = false → r.1 = l ∨ r.1 = []) := by
  unfold spec_TaskPut.f impl_TaskPut.f
  by_cases h : tsFrom l 0
  · have hl2 : l.length ≤ 1000 := by have := h.2; omega
    obtain ⟨p, hp, h1, h2⟩ := put_both l hl2 a0 a1 a2 a3 a4 a5 a6 a7 a8 a9 a10 a11 a12 a13 l.length 0 (by omega) (by omega)
    refine ⟨putR l p ⟨a0, a1, a2, a3, a4, a5, a6, a7, a8, a9, a10, a11, a12, a13⟩, Ev.bind (sTasksOk_ev l hl) (evPos (decide_eq_true h) h1), Ev.bind (iTasksOk_ev l hl) (evPos (decide_eq_true h) h2), ?_, ?_⟩
    · intro z
      unfold putR at z ⊢
      by_cases g : tsFrom (l.take p ++ [⟨a0, a1, a2, a3, a4, a5, a6, a7, a8, a9, a10, a11, a12, a13⟩] ++ l.drop p) 0
      · rw [if_pos g]
        exact ⟨p, hp, rfl, h, g⟩
      · rw [if_neg g] at z
        cases z
    · intro z
      unfold putR at z ⊢
      by_cases g : tsFrom (l.take p ++ [⟨a0, a1, a2, a3, a4, a5, a6, a7, a8, a9, a10, a11, a12, a13⟩] ++ l.drop p) 0
      · rw [if_pos g] at z
        cases z
      · rw [if_neg g]
        exact .inl rfl
  · have hd : ¬ (decide (tsFrom l 0) = true) := by rw [decide_eq_true_eq]; exact h
    exact ⟨([], false), Ev.bind (sTasksOk_ev l hl) (evNeg hd (Ev.now _)), Ev.bind (iTasksOk_ev l hl) (evNeg hd (Ev.now _)), fun z => (by cases z), fun _ => .inr rfl⟩
def toT (x : S24) : S30 := ⟨x.f0, x.f1, x.f2, x.f3, x.f4, x.f5, x.f6, x.f7, x.f8, x.f9, x.f10, x.f11, x.f12, x.f13⟩
theorem full {α : Type} (l : List α) (d : α) (i : Nat) (h : l.length ≤ i) : l.take i ++ List.replicate (l.length - i) d = l := by
  rw [List.take_of_length_le h, show l.length - i = 0 by omega, List.replicate_zero, List.append_nil]
theorem set_step {α : Type} (l : List α) (d : α) (i : Nat) (h : i < l.length) : (l.take i ++ List.replicate (l.length - i) d).set i l[i] = l.take (i + 1) ++ List.replicate (l.length - (i + 1)) d := by
  have hl : (l.take i).length = i := by rw [List.length_take]; omega
  rw [List.set_append_right _ _ (by omega), hl, Nat.sub_self, show l.length - i = (l.length - (i + 1)) + 1 by omega, List.replicate_succ, List.set_cons_zero, List.take_succ_eq_append_getElem h, List.append_assoc]
  rfl
theorem map_step {α β : Type} (f : α → β) (l : List α) (d : β) (i : Nat) (h : i < l.length) : ((l.map f).take i ++ List.replicate (l.length - i) d).set i (f l[i]) = (l.map f).take (i + 1) ++ List.replicate (l.length - (i + 1)) d := by
  have := set_step (l.map f) d i (by simpa using h)
  simpa using this
theorem rdLT (l : List S24) (i : Nat) (h : i < l.length) : rd_T24 l (i : Int) = l[i] := by
  unfold rd_T24
  rw [Int.toNat_natCast, List.getD_eq_getElem?_getD, List.getElem?_eq_getElem h, Option.getD_some]
theorem toTasks_loop (l : List S24) (hl : l.length ≤ 1048576) : ∀ (k i : Nat), l.length - i < k → laws_toTaskS.l0 k l ((l.map toT).take i ++ List.replicate (l.length - i) z30) (i : Int) = some (l.map toT) := by
  intro k
  induction k with
  | zero => intro i h; omega
  | succ k ih =>
    intro i h
    simp only [laws_toTaskS.l0, laws_toTask.f, Option.bind_some]
    by_cases hi : i < l.length
    · rw [if_pos (by omega), if_pos (by omega), if_pos (by rw [List.length_append, List.length_take, List.length_replicate, List.length_map]; omega), rdLT l i hi, Int.toNat_natCast, wr _ (by omega) (by omega)]
      have e := map_step toT l z30 i hi
      unfold toT at e ⊢
      rw [e]
      exact ih (i + 1) (by omega)
    · rw [if_neg (by omega)]
      have e := full (l.map toT) z30 i (by rw [List.length_map]; omega)
      rw [List.length_map] at e
      rw [e]
theorem toTasks_ev (l : List S24) (hl : l.length ≤ 1048576) : Ev (fun k => laws_toTaskS.f k l) (l.map toT) := by
  refine Ev.of (fun k => laws_toTaskS.mono l k) (k := l.length + 1) ?_
  unfold laws_toTaskS.f
  rw [if_pos (by omega), if_pos (by simp only [Int.toNat_natCast]; omega), Int.toNat_natCast]
  have := toTasks_loop l hl (l.length + 1) 0 (by omega)
  simpa using this
theorem FnExactTaskPut : laws_FnExactTaskPut.Pure := by
  intro l a0 a1 a2 a3 a4 a5 a6 a7 a8 a9 a10 a11 a12 a13 hm _ _
  refine Ev.rounds (r := true) ?_
  unfold laws_FnExactTaskPut.f laws_toTask.f
  rcases szTasks l hm with ⟨hl, e⟩ | e
  · rw [e]
    simp only [Option.bind_some]
    refine evNeg (by omega) ?_
    have ht := toTasks_ev l hl
    have hl2 : (l.map toT).length ≤ 1048576 := by rw [List.length_map]; omega
    obtain ⟨r, hs, hi, ha, hb⟩ := taskPut_both (l.map toT) (by omega) a0 a1 a2 a3 a4 a5 a6 a7 a8 a9 a10 a11 a12 a13
    have hr : r.1.length ≤ 1048577 := by
      cases hq : r.2 with
      | true =>
        obtain ⟨p, hp, hr, _⟩ := ha hq
        rw [hr]
        simp only [List.length_append, List.length_take, List.length_drop, List.length_singleton]
        omega
      | false =>
        rcases hb hq with hr | hr
        · rw [hr]; omega
        · rw [hr]; simp
    have hq := eqTasks_ev r.1 (by omega)
    refine Ev.bind ht (Ev.bind hs (Ev.bind ht (Ev.bind hi (Ev.bind hq (evPos rfl ?_)))))
    obtain ⟨m, hm1, hm2, hm3⟩ := marks_ev (l.map toT) (by omega)
    obtain ⟨n, hn1, hn2, hn3⟩ := marks_ev r.1 (by omega)
    refine Ev.step (fun k => by simp only [laws_FnExactTaskPut.j0]; rfl) ?_
    rw [bne_self_eq_false]
    refine evNeg (by decide) (Ev.bind ht (Ev.bind (eqTasks_ev (l.map toT) (by omega)) (evPos rfl (Ev.bind hm1 (evNeg (by omega) (Ev.bind hq (evPos rfl ?_)))))))
    refine Ev.step (fun k => by simp only [laws_FnExactTaskPut.j1, laws_toTask.f, Option.bind_some]; rfl) ?_
    refine evNeg (by decide) (Ev.bind hn1 (Ev.bind hn2 (evNeg (by omega) (evPos rfl (Ev.bind ht (Ev.bind hi (Ev.bind hq (evPos rfl ?_))))))))
    refine Ev.step (fun k => by simp only [laws_FnExactTaskPut.j2]; rfl) ?_
    rw [bne_self_eq_false]
    exact evNeg (by decide) (Ev.bind hn2 (evNeg (by omega) (evPos rfl (Ev.now _))))
  · rw [e]
    simp only [Option.bind_some]
    exact evPos (by omega) (Ev.now _)

end Go.Proofs.Ytbihinhckmfplaa.Pure
