/- The pure statement of FnExactBestOf: at all arguments the program's BestOf and the reference's agree, as plain functions over numbers and lists. Conditions: those of the statement (numbers of 64 bits, lists that lie in memory). -/
import Derived.Test.YtnokdjkkgcpbdacPrintLawsFnExactBestOf
set_option linter.unusedVariables false
set_option linter.unusedSimpArgs false
namespace Go.Proofs.Ytnokdjkkgcpbdac.Pure
open Go.RowKit Go.Proofs.Ytnokdjkkgcpbdac.Print Go.Proofs.YtnokdjkkgcpbdacW.PrintWords Go.Proofs.YtnokdjkkgcpbdacW.PrintLast Go.Proofs.YtnokdjkkgcpbdacW.PrintMore Go.Proofs.Ytnokdjkkgcpbdac.Base

/-! A task as one value, and who is before whom. -/
structure Tk where
  (f0 f1 f2 f3 : Int)
  f4 : Bool
  (f5 f6 f7 f8 f9 f10 f11 f12 f13 : Int)
def Tk.ok (t : Tk) : Prop := TaskP t.f0 t.f1 t.f2 t.f3 t.f5 t.f6 t.f7 t.f8 t.f9 t.f10 t.f11 t.f12 t.f13
instance (t : Tk) : Decidable (Tk.ok t) := by unfold Tk.ok; infer_instance
def dueLt (a b : Tk) : Prop := (Tk.ok a ∧ a.f1 = 1) ∧ (Tk.ok b ∧ b.f1 = 1) ∧ (a.f8 < b.f8 ∨ a.f8 = b.f8 ∧ a.f0 < b.f0)
def fixLt (a b : Tk) : Prop := (Tk.ok a ∧ a.f1 = 2) ∧ (Tk.ok b ∧ b.f1 = 2) ∧ (a.f9 > b.f9 ∨ a.f9 = b.f9 ∧ (a.f11 < b.f11 ∨ a.f11 = b.f11 ∧ a.f0 < b.f0))
def fairLt (a b : Tk) : Prop := (Tk.ok a ∧ a.f1 = 3) ∧ (Tk.ok b ∧ b.f1 = 3) ∧ (a.f13 < b.f13 ∨ a.f13 = b.f13 ∧ a.f0 < b.f0)
instance (a b : Tk) : Decidable (dueLt a b) := by unfold dueLt; infer_instance
instance (a b : Tk) : Decidable (fixLt a b) := by unfold fixLt; infer_instance
instance (a b : Tk) : Decidable (fairLt a b) := by unfold fairLt; infer_instance
def before (a b : Tk) : Prop := Tk.ok a ∧ Tk.ok b ∧ (a.f1 < b.f1 ∨ dueLt a b ∨ fixLt a b ∨ fairLt a b)
instance (a b : Tk) : Decidable (before a b) := by unfold before; infer_instance
theorem before_irrefl (a : Tk) : ¬ before a a := by
  rintro ⟨ha, _, h⟩
  simp only [dueLt, fixLt, fairLt, ha, true_and] at h
  omega
def tk (t : S25) : Tk := ⟨t.f0, t.f1, t.f2, t.f3, t.f4, t.f5, t.f6, t.f7, t.f8, t.f9, t.f10, t.f11, t.f12, t.f13⟩
/-- No task of the list goes before m; m is one of them. -/
def isBest (P : S25 → Prop) (m : S25) : Prop := P m ∧ ∀ t, P t → ¬ before (tk t) (tk m)
theorem best_one (Q : S25 → Prop) (x : S25) (hQ : ∀ t, Q t ↔ t = x) : isBest Q x := ⟨(hQ x).2 rfl, fun t ht => by rw [(hQ t).1 ht]; exact before_irrefl _⟩
theorem before_trans (a b c : Tk) : before a b → before b c → before a c := by
  rintro ⟨ha, hb, h⟩ ⟨_, hc, g⟩
  refine ⟨ha, hc, ?_⟩
  simp only [dueLt, fixLt, fairLt, ha, hb, hc, true_and] at h g ⊢
  omega
theorem best_step (P Q : S25 → Prop) (m x : S25) (hm : isBest P m) (hQ : ∀ t, Q t ↔ P t ∨ t = x) : isBest Q (if before (tk x) (tk m) then x else m) := by
  by_cases h : before (tk x) (tk m)
  · rw [if_pos h]
    refine ⟨(hQ x).2 (.inr rfl), fun t ht => ?_⟩
    rcases (hQ t).1 ht with g | g
    · exact fun b => hm.2 t g (before_trans _ _ _ b h)
    · rw [g]
      exact before_irrefl _
  · rw [if_neg h]
    refine ⟨(hQ m).2 (.inl hm.1), fun t ht => ?_⟩
    rcases (hQ t).1 ht with g | g
    · exact hm.2 t g
    · rw [g]
      exact h
theorem rd_at (l : List Int) (i : Nat) (h : i < l.length) : rd l (i : Int) = l[i] := by
  unfold rd
  rw [Int.toNat_natCast, List.getD_eq_getElem?_getD, List.getElem?_eq_getElem h, Option.getD_some]
theorem has_loop (l : List Int) (hl : l.length ≤ 1048576000) (v : Int) : ∀ (d i : Nat), l.length - i = d → i ≤ l.length → Ev (fun k => spec_l7Has.l0 k l v (i : Int)) (decide (v ∈ l.drop i)) := by
  intro d
  induction d with
  | zero =>
    intro i hd hi
    refine Ev.step (fun k => by simp only [spec_l7Has.l0]; rfl) ?_
    refine evNeg (by omega) ?_
    rw [List.drop_eq_nil_of_le (by omega)]
    exact evEq _ (fun _ => rfl) (by simp)
  | succ d ih =>
    intro i hd hi
    have hi2 : i < l.length := by omega
    refine Ev.step (fun k => by simp only [spec_l7Has.l0]; rfl) ?_
    refine evPos (by omega) (evPos (by omega) ?_)
    rw [rd_at l i hi2, List.drop_eq_getElem_cons hi2, wr _ (by omega) (by omega)]
    by_cases h : l[i] = v
    · exact evPos h (evEq _ (fun _ => rfl) (by simp [h]))
    · refine evNeg h ?_
      rw [show decide (v ∈ l[i] :: l.drop (i + 1)) = decide (v ∈ l.drop (i + 1)) from decide_eq_decide.2 (by rw [List.mem_cons]; exact ⟨fun x => x.resolve_left fun e => h e.symm, .inr⟩)]
      exact ih (i + 1) (by omega) (by omega)
theorem has_ev (l : List Int) (hl : l.length ≤ 1048576000) (v : Int) : Ev (fun k => spec_l7Has.f k l v) (decide (v ∈ l)) := by
  have := has_loop l hl v l.length 0 (by omega) (by omega)
  exact this
/-! Lists of tasks: what is read of them. -/
theorem rdT (l : List S25) (i : Nat) (h : i < l.length) : rd_T25 l (i : Int) = l[i] := by
  unfold rd_T25
  rw [Int.toNat_natCast, List.getD_eq_getElem?_getD, List.getElem?_eq_getElem h, Option.getD_some]
theorem sisDue_eq (a0 a1 a2 a3 : Int) (a4 : Bool) (a5 a6 a7 a8 a9 a10 a11 a12 a13 : Int) : spec_l4Due.f a0 a1 a2 a3 a4 a5 a6 a7 a8 a9 a10 a11 a12 a13 = some (decide (TaskP a0 a1 a2 a3 a5 a6 a7 a8 a9 a10 a11 a12 a13 ∧ a1 = 1)) := by
  unfold spec_l4Due.f spec_TaskOk.f
  simp only [Option.bind_some, decide_eq_true_eq]
  by_cases h : TaskP a0 a1 a2 a3 a5 a6 a7 a8 a9 a10 a11 a12 a13
  · simp [h, dBeq]
  · simp [h]
theorem dueB (a0 a1 a2 a3 : Int) (a4 : Bool) (a5 a6 a7 a8 a9 a10 a11 a12 a13 : Int) (b0 b1 b2 b3 : Int) (b4 : Bool) (b5 b6 b7 b8 b9 b10 b11 b12 b13 : Int) : spec_DueBefore.f a0 a1 a2 a3 a4 a5 a6 a7 a8 a9 a10 a11 a12 a13 b0 b1 b2 b3 b4 b5 b6 b7 b8 b9 b10 b11 b12 b13 = some (decide (dueLt ⟨a0, a1, a2, a3, a4, a5, a6, a7, a8, a9, a10, a11, a12, a13⟩ ⟨b0, b1, b2, b3, b4, b5, b6, b7, b8, b9, b10, b11, b12, b13⟩)) := by
  unfold spec_DueBefore.f dueLt Tk.ok
  simp only [sisDue_eq, Option.bind_some, decide_eq_true_eq, dFalse, dTrue, dIte]
  refine congrArg some (decide_eq_decide.2 ?_)
  generalize (TaskP a0 a1 a2 a3 a5 a6 a7 a8 a9 a10 a11 a12 a13 ∧ a1 = 1) = P
  generalize (TaskP b0 b1 b2 b3 b5 b6 b7 b8 b9 b10 b11 b12 b13 ∧ b1 = 1) = Q
  by_cases h : P <;> by_cases g : Q <;> simp only [h, g, true_and, false_and, and_false, and_true, not_true_eq_false, not_false_eq_true, or_false]
  omega
theorem sisFair_eq (a0 a1 a2 a3 : Int) (a4 : Bool) (a5 a6 a7 a8 a9 a10 a11 a12 a13 : Int) : spec_l6Fair.f a0 a1 a2 a3 a4 a5 a6 a7 a8 a9 a10 a11 a12 a13 = some (decide (TaskP a0 a1 a2 a3 a5 a6 a7 a8 a9 a10 a11 a12 a13 ∧ a1 = 3)) := by
  unfold spec_l6Fair.f spec_TaskOk.f
  simp only [Option.bind_some, decide_eq_true_eq]
  by_cases h : TaskP a0 a1 a2 a3 a5 a6 a7 a8 a9 a10 a11 a12 a13
  · simp [h, dBeq]
  · simp [h]
theorem fairB (a0 a1 a2 a3 : Int) (a4 : Bool) (a5 a6 a7 a8 a9 a10 a11 a12 a13 : Int) (b0 b1 b2 b3 : Int) (b4 : Bool) (b5 b6 b7 b8 b9 b10 b11 b12 b13 : Int) : spec_FairBefore.f a0 a1 a2 a3 a4 a5 a6 a7 a8 a9 a10 a11 a12 a13 b0 b1 b2 b3 b4 b5 b6 b7 b8 b9 b10 b11 b12 b13 = some (decide (fairLt ⟨a0, a1, a2, a3, a4, a5, a6, a7, a8, a9, a10, a11, a12, a13⟩ ⟨b0, b1, b2, b3, b4, b5, b6, b7, b8, b9, b10, b11, b12, b13⟩)) := by
  unfold spec_FairBefore.f fairLt Tk.ok
  simp only [sisFair_eq, Option.bind_some, decide_eq_true_eq, dFalse, dTrue, dIte]
  refine congrArg some (decide_eq_decide.2 ?_)
  generalize (TaskP a0 a1 a2 a3 a5 a6 a7 a8 a9 a10 a11 a12 a13 ∧ a1 = 3) = P
  generalize (TaskP b0 b1 b2 b3 b5 b6 b7 b8 b9 b10 b11 b12 b13 ∧ b1 = 3) = Q
  by_cases h : P <;> by_cases g : Q <;> simp only [h, g, true_and, false_and, and_false, and_true, not_true_eq_false, not_false_eq_true, or_false]
  omega
theorem sisFixed_eq (a0 a1 a2 a3 : Int) (a4 : Bool) (a5 a6 a7 a8 a9 a10 a11 a12 a13 : Int) : spec_l5Fixed.f a0 a1 a2 a3 a4 a5 a6 a7 a8 a9 a10 a11 a12 a13 = some (decide (TaskP a0 a1 a2 a3 a5 a6 a7 a8 a9 a10 a11 a12 a13 ∧ a1 = 2)) := by
  unfold spec_l5Fixed.f spec_TaskOk.f
  simp only [Option.bind_some, decide_eq_true_eq]
  by_cases h : TaskP a0 a1 a2 a3 a5 a6 a7 a8 a9 a10 a11 a12 a13
  · simp [h, dBeq]
  · simp [h]
theorem fixB (k : Nat) (a0 a1 a2 a3 : Int) (a4 : Bool) (a5 a6 a7 a8 a9 a10 a11 a12 a13 : Int) (b0 b1 b2 b3 : Int) (b4 : Bool) (b5 b6 b7 b8 b9 b10 b11 b12 b13 : Int) : spec_FixedBefore.f (k + 1) a0 a1 a2 a3 a4 a5 a6 a7 a8 a9 a10 a11 a12 a13 b0 b1 b2 b3 b4 b5 b6 b7 b8 b9 b10 b11 b12 b13 = some (decide (fixLt ⟨a0, a1, a2, a3, a4, a5, a6, a7, a8, a9, a10, a11, a12, a13⟩ ⟨b0, b1, b2, b3, b4, b5, b6, b7, b8, b9, b10, b11, b12, b13⟩)) := by
  unfold spec_FixedBefore.f
  simp only [sisFixed_eq, spec_FixedBefore.j0, Option.bind_some, decide_eq_true_eq, dNot]
  by_cases h : TaskP a0 a1 a2 a3 a5 a6 a7 a8 a9 a10 a11 a12 a13 ∧ a1 = 2 <;> by_cases g : TaskP b0 b1 b2 b3 b5 b6 b7 b8 b9 b10 b11 b12 b13 ∧ b1 = 2
  · rw [if_pos h, if_neg (fun f => f g)]
    simp only [dFalse, dTrue, dIte]
    refine congrArg some (decide_eq_decide.2 ⟨fun z => ⟨h, g, show a9 > b9 ∨ a9 = b9 ∧ (a11 < b11 ∨ a11 = b11 ∧ a0 < b0) from ?_⟩, fun z => ?_⟩)
    · omega
    · have z : a9 > b9 ∨ a9 = b9 ∧ (a11 < b11 ∨ a11 = b11 ∧ a0 < b0) := z.2.2
      omega
  · rw [if_pos h, if_pos g]
    exact congrArg some (decide_eq_false fun z => g z.2.1).symm
  · rw [if_neg h, if_pos trivial]
    exact congrArg some (decide_eq_false fun z => h z.1).symm
  · rw [if_neg h, if_pos trivial]
    exact congrArg some (decide_eq_false fun z => h z.1).symm
theorem befB (k : Nat) (a0 a1 a2 a3 : Int) (a4 : Bool) (a5 a6 a7 a8 a9 a10 a11 a12 a13 : Int) (b0 b1 b2 b3 : Int) (b4 : Bool) (b5 b6 b7 b8 b9 b10 b11 b12 b13 : Int) : spec_Before.f (k + 2) a0 a1 a2 a3 a4 a5 a6 a7 a8 a9 a10 a11 a12 a13 b0 b1 b2 b3 b4 b5 b6 b7 b8 b9 b10 b11 b12 b13 = some (decide (before ⟨a0, a1, a2, a3, a4, a5, a6, a7, a8, a9, a10, a11, a12, a13⟩ ⟨b0, b1, b2, b3, b4, b5, b6, b7, b8, b9, b10, b11, b12, b13⟩)) := by
  unfold spec_Before.f
  simp only [spec_TaskOk.f, spec_Before.j0, dueB, fixB, fairB, Option.bind_some, decide_eq_true_eq, dNot]
  by_cases h : TaskP a0 a1 a2 a3 a5 a6 a7 a8 a9 a10 a11 a12 a13 <;> by_cases g : TaskP b0 b1 b2 b3 b5 b6 b7 b8 b9 b10 b11 b12 b13
  · rw [if_pos h, if_neg (fun f => f g)]
    simp only [dTrue, dIte]
    refine congrArg some (decide_eq_decide.2 ?_)
    have hh : Tk.ok ⟨a0, a1, a2, a3, a4, a5, a6, a7, a8, a9, a10, a11, a12, a13⟩ := h
    have gg : Tk.ok ⟨b0, b1, b2, b3, b4, b5, b6, b7, b8, b9, b10, b11, b12, b13⟩ := g
    simp only [before, dueLt, fixLt, fairLt, hh, gg, true_and, and_true]
    by_cases e : a1 = b1
    · subst e
      simp only [true_and, not_true_eq_false, not_false_eq_true, false_and, or_false, Int.lt_irrefl, false_or]
      omega
    · omega
  · rw [if_pos h, if_pos g]
    exact congrArg some (decide_eq_false fun z => g z.2.1).symm
  · rw [if_neg h, if_pos trivial]
    exact congrArg some (decide_eq_false fun z => h z.1).symm
  · rw [if_neg h, if_pos trivial]
    exact congrArg some (decide_eq_false fun z => h z.1).symm
theorem sBef_ev (a0 a1 a2 a3 : Int) (a4 : Bool) (a5 a6 a7 a8 a9 a10 a11 a12 a13 : Int) (b0 b1 b2 b3 : Int) (b4 : Bool) (b5 b6 b7 b8 b9 b10 b11 b12 b13 : Int) : Ev (fun k => spec_Before.f k a0 a1 a2 a3 a4 a5 a6 a7 a8 a9 a10 a11 a12 a13 b0 b1 b2 b3 b4 b5 b6 b7 b8 b9 b10 b11 b12 b13) (decide (before ⟨a0, a1, a2, a3, a4, a5, a6, a7, a8, a9, a10, a11, a12, a13⟩ ⟨b0, b1, b2, b3, b4, b5, b6, b7, b8, b9, b10, b11, b12, b13⟩)) := Ev.of (fun k => spec_Before.mono a0 a1 a2 a3 a4 a5 a6 a7 a8 a9 a10 a11 a12 a13 b0 b1 b2 b3 b4 b5 b6 b7 b8 b9 b10 b11 b12 b13 k) (befB 0 a0 a1 a2 a3 a4 a5 a6 a7 a8 a9 a10 a11 a12 a13 b0 b1 b2 b3 b4 b5 b6 b7 b8 b9 b10 b11 b12 b13)
def tOk (t : S25) : Prop := TaskP t.f0 t.f1 t.f2 t.f3 t.f5 t.f6 t.f7 t.f8 t.f9 t.f10 t.f11 t.f12 t.f13
instance (t : S25) : Decidable (tOk t) := by unfold tOk; infer_instance
/-- What makes a list of tasks right from place i on. -/
def tsFrom (l : List S25) (i : Nat) : Prop := (∀ j, i ≤ j → ∀ h : j < l.length, tOk l[j] ∧ (0 < j → (l[j - 1]).f0 < (l[j]).f0)) ∧ l.length ≤ 12
noncomputable instance (l : List S25) (i : Nat) : Decidable (tsFrom l i) := Classical.propDecidable _
theorem tsFrom_end (l : List S25) (i : Nat) (h : ¬ i < l.length) : tsFrom l i ↔ l.length ≤ 12 := ⟨fun x => x.2, fun x => ⟨fun j hj hl => absurd hl (by omega), x⟩⟩
theorem tsFrom_step (l : List S25) (i : Nat) (h : i < l.length) : tsFrom l i ↔ (tOk l[i] ∧ (0 < i → (l[i - 1]).f0 < (l[i]).f0)) ∧ tsFrom l (i + 1) := by
  constructor
  · intro x
    exact ⟨x.1 i (Nat.le_refl _) h, fun j hj hl => x.1 j (by omega) hl, x.2⟩
  · intro x
    refine ⟨fun j hj hl => ?_, x.2.2⟩
    by_cases e : j = i
    · subst e
      exact x.1
    · exact x.2.1 j (by omega) hl
theorem sTasksOk_loop (l : List S25) (hl : l.length ≤ 1048576000) : ∀ (k i : Nat), l.length - i < k → spec_TasksOk.l0 k l (i : Int) = some (decide (tsFrom l i)) := by
  intro k
  induction k with
  | zero => intro i h; omega
  | succ k ih =>
    intro i h
    simp only [spec_TasksOk.l0, spec_TaskOk.f, Option.bind_some]
    by_cases hi : i < l.length
    · rw [if_pos (by omega), if_pos (by omega), rdT l i hi, wr ((i : Int) + 1) (by omega) (by omega)]
      have es := tsFrom_step l i hi
      by_cases ht : tOk l[i]
      · rw [show decide (TaskP (l[i]).f0 (l[i]).f1 (l[i]).f2 (l[i]).f3 (l[i]).f5 (l[i]).f6 (l[i]).f7 (l[i]).f8 (l[i]).f9 (l[i]).f10 (l[i]).f11 (l[i]).f12 (l[i]).f13) = true from decide_eq_true ht, if_pos rfl]
        have en := ih (i + 1) (by omega)
        by_cases h0 : 0 < i
        · rw [if_pos (by omega), wr ((i : Int) - 1) (by omega) (by omega), if_pos (by omega), if_pos (by omega), show (i : Int) - 1 = ((i - 1 : Nat) : Int) by omega, rdT l (i - 1) (by omega)]
          by_cases hc : (l[i - 1]).f0 ≥ (l[i]).f0
          · rw [if_pos hc]
            exact congrArg some (decide_eq_false fun x => by have := (es.1 x).1.2 h0; omega).symm
          · rw [if_neg hc]
            refine en.trans (congrArg some (decide_eq_decide.2 ?_))
            exact ⟨fun x => es.2 ⟨⟨ht, fun _ => by omega⟩, x⟩, fun x => (es.1 x).2⟩
        · rw [if_neg (by omega)]
          refine en.trans (congrArg some (decide_eq_decide.2 ?_))
          exact ⟨fun x => es.2 ⟨⟨ht, fun z => absurd z h0⟩, x⟩, fun x => (es.1 x).2⟩
      · rw [show decide (TaskP (l[i]).f0 (l[i]).f1 (l[i]).f2 (l[i]).f3 (l[i]).f5 (l[i]).f6 (l[i]).f7 (l[i]).f8 (l[i]).f9 (l[i]).f10 (l[i]).f11 (l[i]).f12 (l[i]).f13) = false from decide_eq_false ht, if_neg (by decide)]
        exact congrArg some (decide_eq_false fun x => ht (es.1 x).1.1).symm
    · rw [if_neg (by omega)]
      refine congrArg some (decide_eq_decide.2 ?_)
      rw [tsFrom_end l i hi]
      omega
theorem sTasksOk_ev (l : List S25) (hl : l.length ≤ 1048576000) : Ev (fun k => spec_TasksOk.f k l) (decide (tsFrom l 0)) := by
  refine Ev.of (fun k => spec_TasksOk.mono l k) (k := l.length + 1) ?_
  unfold spec_TasksOk.f
  exact sTasksOk_loop l hl (l.length + 1) 0 (by omega)
theorem best_loop (l : List S25) (n : List Int) (hl : l.length ≤ 12) (hn : n.length ≤ 1048576000) (ok : ∀ i, ∀ h : i < l.length, tOk l[i]) (hs : tsFrom l 0) : ∀ (d i : Nat) (b : Int), l.length - i = d → i ≤ l.length → (b = -1 ∧ (∀ t, ¬ (t ∈ l.take i ∧ t.f0 ∈ n)) ∨ (∃ j : Nat, ∃ h : j < l.length, b = (j : Int) ∧ isBest (fun t => t ∈ l.take i ∧ t.f0 ∈ n) l[j])) → ∃ r, Ev (fun k => spec_BestOf.l0 k l n b (i : Int)) r ∧ ((r = 0 ∧ ∀ t, ¬ (t ∈ l ∧ t.f0 ∈ n)) ∨ ∃ m, r = m.f0 ∧ isBest (fun t => t ∈ l ∧ t.f0 ∈ n) m) := by
  intro d
  induction d with
  | zero =>
    intro i b hd hi hb
    rw [List.take_of_length_le (by omega)] at hb
    rcases hb with ⟨hb, h⟩ | ⟨j, hj, hb, h⟩
    · refine ⟨0, ?_, .inl ⟨rfl, h⟩⟩
      refine Ev.step (fun k => by simp only [spec_BestOf.l0]; rfl) ?_
      refine evNeg (by omega) ?_
      refine Ev.step (fun k => by simp only [spec_BestOf.j1]; rfl) ?_
      exact evNeg (by decide) (evPos (by omega) (Ev.now _))
    · refine ⟨(l[j]).f0, ?_, .inr ⟨l[j], rfl, h⟩⟩
      refine Ev.step (fun k => by simp only [spec_BestOf.l0]; rfl) ?_
      refine evNeg (by omega) ?_
      refine Ev.step (fun k => by simp only [spec_BestOf.j1]; rfl) ?_
      refine evNeg (by decide) (evNeg (by omega) (evPos (by omega) (evPos (by omega) ?_)))
      rw [hb, rdT l j hj]
      exact Ev.now _
  | succ d ih =>
    intro i b hd hi
    have hi2 : i < l.length := by omega
    have hd2 : l.length - (i + 1) = d := by omega
    have e : wrap64 ((i : Int) + 1) = ((i + 1 : Nat) : Int) := by rw [wr _ (by omega) (by omega)]; omega
    have p0 : (i : Int) < (l.length : Int) := by omega
    have p1 : (0 : Int) ≤ (i : Int) := by omega
    intro hb
    have mem : ∀ t, t ∈ l.take (i + 1) ↔ t ∈ l.take i ∨ t = l[i] := by
      intro t
      rw [List.take_succ_eq_append_getElem hi2, List.mem_append, List.mem_singleton]
    have go : ∀ b', (b' = -1 ∧ (∀ t, ¬ (t ∈ l.take (i + 1) ∧ t.f0 ∈ n)) ∨ (∃ j : Nat, ∃ h : j < l.length, b' = (j : Int) ∧ isBest (fun t => t ∈ l.take (i + 1) ∧ t.f0 ∈ n) l[j])) → (∀ r, Ev (fun k => spec_BestOf.l0 k l n b' ((i + 1 : Nat) : Int)) r → Ev (fun k => spec_BestOf.l0 k l n b (i : Int)) r) → ∃ r, Ev (fun k => spec_BestOf.l0 k l n b (i : Int)) r ∧ ((r = 0 ∧ ∀ t, ¬ (t ∈ l ∧ t.f0 ∈ n)) ∨ ∃ m, r = m.f0 ∧ isBest (fun t => t ∈ l ∧ t.f0 ∈ n) m) := by
      intro b' hb' hr
      obtain ⟨r, h, g⟩ := ih (i + 1) b' hd2 hi2 hb'
      exact ⟨r, hr r h, g⟩
    have head : ∀ (b' : Int) (r : Int), Ev (fun k => (spec_l7Has.f k n (l[i]).f0).bind fun t104 => (if t104 = true then (if b < 0 then (spec_BestOf.l0 k l n (i : Int) ((i + 1 : Nat) : Int)) else (if 0 ≤ b then (if b < (l.length : Int) then ((spec_Before.f k (l[i]).f0 (l[i]).f1 (l[i]).f2 (l[i]).f3 (l[i]).f4 (l[i]).f5 (l[i]).f6 (l[i]).f7 (l[i]).f8 (l[i]).f9 (l[i]).f10 (l[i]).f11 (l[i]).f12 (l[i]).f13 ((rd_T25 l b).f0) ((rd_T25 l b).f1) ((rd_T25 l b).f2) ((rd_T25 l b).f3) ((rd_T25 l b).f4) ((rd_T25 l b).f5) ((rd_T25 l b).f6) ((rd_T25 l b).f7) ((rd_T25 l b).f8) ((rd_T25 l b).f9) ((rd_T25 l b).f10) ((rd_T25 l b).f11) ((rd_T25 l b).f12) ((rd_T25 l b).f13)).bind fun t107 => (if t107 = true then (spec_BestOf.l0 k l n (i : Int) ((i + 1 : Nat) : Int)) else (spec_BestOf.l0 k l n b ((i + 1 : Nat) : Int)))) else (none)) else (none))) else (spec_BestOf.l0 k l n b ((i + 1 : Nat) : Int)))) r → Ev (fun k => spec_BestOf.l0 k l n b (i : Int)) r := by
      intro b' r h
      refine Ev.step (fun k => by simp only [spec_BestOf.l0]; rfl) ?_
      refine evPos (by omega) (Ev.bind (sTasksOk_ev l (by omega)) ?_)
      rw [decide_eq_true hs]
      refine Ev.step (fun k => by simp only [spec_BestOf.j1]; rfl) ?_
      refine evPos trivial (evPos (by omega) (evPos (by omega) ?_))
      rw [rdT l i hi2, e]
      exact h
    have hh := has_ev n hn (l[i]).f0
    by_cases hc : (l[i]).f0 ∈ n
    · rcases hb with ⟨hb, h⟩ | ⟨j, hj, hb, h⟩
      · refine go i (.inr ⟨i, hi2, rfl, best_one _ _ fun t => ?_⟩) fun r hr => head b r (Ev.bind hh (evPos (decide_eq_true hc) (evPos (by omega) hr)))
        constructor
        · intro x
          rcases (mem t).1 x.1 with g | g
          · exact absurd ⟨g, x.2⟩ (h t)
          · exact g
        · intro x
          rw [x]
          exact ⟨(mem _).2 (.inr rfl), hc⟩
      · have st := best_step _ (fun t => t ∈ l.take (i + 1) ∧ t.f0 ∈ n) l[j] l[i] h (fun t => by
          constructor
          · intro x
            rcases (mem t).1 x.1 with g | g
            · exact .inl ⟨g, x.2⟩
            · exact .inr g
          · rintro (x | x)
            · exact ⟨(mem t).2 (.inl x.1), x.2⟩
            · rw [x]
              exact ⟨(mem _).2 (.inr rfl), hc⟩)
        have bv := sBef_ev (l[i]).f0 (l[i]).f1 (l[i]).f2 (l[i]).f3 (l[i]).f4 (l[i]).f5 (l[i]).f6 (l[i]).f7 (l[i]).f8 (l[i]).f9 (l[i]).f10 (l[i]).f11 (l[i]).f12 (l[i]).f13 (l[j]).f0 (l[j]).f1 (l[j]).f2 (l[j]).f3 (l[j]).f4 (l[j]).f5 (l[j]).f6 (l[j]).f7 (l[j]).f8 (l[j]).f9 (l[j]).f10 (l[j]).f11 (l[j]).f12 (l[j]).f13
        by_cases hx : before (tk l[i]) (tk l[j])
        · rw [if_pos hx] at st
          refine go i (.inr ⟨i, hi2, rfl, st⟩) fun r hr => head b r (Ev.bind hh (evPos (decide_eq_true hc) (evNeg (by omega) (evPos (by omega) (evPos (by omega) ?_)))))
          rw [hb, rdT l j hj]
          exact Ev.bind bv (evPos (decide_eq_true hx) hr)
        · rw [if_neg hx] at st
          refine go b (.inr ⟨j, hj, hb, st⟩) fun r hr => head b r (Ev.bind hh (evPos (decide_eq_true hc) (evNeg (by omega) (evPos (by omega) (evPos (by omega) ?_)))))
          rw [hb] at hr ⊢
          rw [rdT l j hj]
          exact Ev.bind bv (evNeg (by rw [decide_eq_true_eq]; exact hx) hr)
    · have mem2 : ∀ t, (t ∈ l.take (i + 1) ∧ t.f0 ∈ n) ↔ (t ∈ l.take i ∧ t.f0 ∈ n) := by
        intro t
        constructor
        · intro x
          rcases (mem t).1 x.1 with g | g
          · exact ⟨g, x.2⟩
          · rw [g] at x
            exact absurd x.2 hc
        · exact fun x => ⟨(mem t).2 (.inl x.1), x.2⟩
      refine go b ?_ fun r hr => head b r (Ev.bind hh (evNeg (by rw [decide_eq_true_eq]; exact hc) hr))
      simp only [mem2]
      exact hb
theorem before_total (a b : Tk) (ha : Tk.ok a) (hb : Tk.ok b) (h : a.f0 ≠ b.f0) : before a b ∨ before b a := by
  have h1 : 1 ≤ a.f1 ∧ a.f1 ≤ 3 := by have := ha; unfold Tk.ok TaskP at this; omega
  simp only [before, dueLt, fixLt, fairLt, ha, hb, true_and]
  omega
theorem best_no (P : S25 → Prop) (hP : ∀ t, P t → tOk t) (m n : S25) (hm : isBest P m) (hn : isBest P n) : m.f0 = n.f0 := by
  by_cases h : m.f0 = n.f0
  · exact h
  · rcases before_total (tk m) (tk n) (hP m hm.1) (hP n hn.1) h with g | g
    · exact absurd g (hn.2 m hm.1)
    · exact absurd g (hm.2 n hn.1)
theorem eqInts_loop (l : List Int) (hl : l.length ≤ maxLen) (d : Nat) : ∀ (k i : Nat), l.length - i ≤ d → d < k → laws_eqIntS.l0 k l l (i : Int) = some true := by
  unfold maxLen at hl
  induction d with
  | zero =>
    intro k i hd hk
    obtain ⟨k, rfl⟩ : ∃ m, k = m + 1 := ⟨k - 1, by omega⟩
    simp only [laws_eqIntS.l0]
    rw [if_neg (by omega)]
  | succ d ih =>
    intro k i hd hk
    obtain ⟨k, rfl⟩ : ∃ m, k = m + 1 := ⟨k - 1, by omega⟩
    simp only [laws_eqIntS.l0]
    by_cases h : i < l.length
    · rw [if_pos (by omega), if_pos (by omega), if_pos (by omega), if_pos trivial, wr _ (by omega) (by omega)]
      exact ih k (i + 1) (by omega) (by omega)
    · rw [if_neg (by omega)]
theorem eqInts_ev (l : List Int) (hl : l.length ≤ maxLen) : Ev (fun k => laws_eqIntS.f k l l) true := by
  refine Ev.of (fun k => laws_eqIntS.mono l l k) (k := l.length + 1) ?_
  unfold laws_eqIntS.f
  rw [if_pos rfl]
  exact eqInts_loop l hl l.length (l.length + 1) 0 (by omega) (by omega)
theorem eqTask_refl (a0 a1 a2 a3 : Int) (a4 : Bool) (a5 a6 a7 a8 a9 a10 a11 a12 a13 : Int) : laws_eqTask.f a0 a1 a2 a3 a4 a5 a6 a7 a8 a9 a10 a11 a12 a13 a0 a1 a2 a3 a4 a5 a6 a7 a8 a9 a10 a11 a12 a13 = some true := by
  unfold laws_eqTask.f
  simp
theorem eqTasks_loop (l : List S25) (hl : l.length ≤ 1048576000) : ∀ (k i : Nat), l.length - i < k → laws_eqTaskS.l0 k l l (i : Int) = some true := by
  intro k
  induction k with
  | zero => intro i h; omega
  | succ k ih =>
    intro i h
    simp only [laws_eqTaskS.l0, eqTask_refl, Option.bind_some]
    by_cases hi : i < l.length
    · rw [if_pos (by omega), if_pos (by omega), if_pos (by omega), if_pos trivial, wr _ (by omega) (by omega)]
      exact ih (i + 1) (by omega)
    · rw [if_neg (by omega)]
theorem eqTasks_ev (l : List S25) (hl : l.length ≤ 1048576000) : Ev (fun k => laws_eqTaskS.f k l l) true := by
  refine Ev.of (fun k => laws_eqTaskS.mono l l k) (k := l.length + 1) ?_
  unfold laws_eqTaskS.f
  rw [if_pos rfl]
  exact eqTasks_loop l hl (l.length + 1) 0 (by omega)
theorem isDue_eq (a0 a1 a2 a3 : Int) (a4 : Bool) (a5 a6 a7 a8 a9 a10 a11 a12 a13 : Int) : impl_isDue.f a0 a1 a2 a3 a4 a5 a6 a7 a8 a9 a10 a11 a12 a13 = some (decide (TaskP a0 a1 a2 a3 a5 a6 a7 a8 a9 a10 a11 a12 a13 ∧ a1 = 1)) := by
  unfold impl_isDue.f impl_TaskOk.f
  by_cases h : a1 = 1
  · rw [if_pos h]
    simp [h]
  · rw [if_neg h]
    simp [h]
theorem dueBefore_eq (a0 a1 a2 a3 : Int) (a4 : Bool) (a5 a6 a7 a8 a9 a10 a11 a12 a13 : Int) (b0 b1 b2 b3 : Int) (b4 : Bool) (b5 b6 b7 b8 b9 b10 b11 b12 b13 : Int) : impl_DueBefore.f a0 a1 a2 a3 a4 a5 a6 a7 a8 a9 a10 a11 a12 a13 b0 b1 b2 b3 b4 b5 b6 b7 b8 b9 b10 b11 b12 b13 = spec_DueBefore.f a0 a1 a2 a3 a4 a5 a6 a7 a8 a9 a10 a11 a12 a13 b0 b1 b2 b3 b4 b5 b6 b7 b8 b9 b10 b11 b12 b13 := by
  unfold impl_DueBefore.f spec_DueBefore.f
  simp only [isDue_eq, sisDue_eq]
theorem isFair_eq (a0 a1 a2 a3 : Int) (a4 : Bool) (a5 a6 a7 a8 a9 a10 a11 a12 a13 : Int) : impl_isFair.f a0 a1 a2 a3 a4 a5 a6 a7 a8 a9 a10 a11 a12 a13 = some (decide (TaskP a0 a1 a2 a3 a5 a6 a7 a8 a9 a10 a11 a12 a13 ∧ a1 = 3)) := by
  unfold impl_isFair.f impl_TaskOk.f
  by_cases h : a1 = 3
  · rw [if_pos h]
    simp [h]
  · rw [if_neg h]
    simp [h]
theorem fairBefore_eq (a0 a1 a2 a3 : Int) (a4 : Bool) (a5 a6 a7 a8 a9 a10 a11 a12 a13 : Int) (b0 b1 b2 b3 : Int) (b4 : Bool) (b5 b6 b7 b8 b9 b10 b11 b12 b13 : Int) : impl_FairBefore.f a0 a1 a2 a3 a4 a5 a6 a7 a8 a9 a10 a11 a12 a13 b0 b1 b2 b3 b4 b5 b6 b7 b8 b9 b10 b11 b12 b13 = spec_FairBefore.f a0 a1 a2 a3 a4 a5 a6 a7 a8 a9 a10 a11 a12 a13 b0 b1 b2 b3 b4 b5 b6 b7 b8 b9 b10 b11 b12 b13 := by
  unfold impl_FairBefore.f spec_FairBefore.f
  simp only [isFair_eq, sisFair_eq]
theorem isFixed_eq (a0 a1 a2 a3 : Int) (a4 : Bool) (a5 a6 a7 a8 a9 a10 a11 a12 a13 : Int) : impl_isFixed.f a0 a1 a2 a3 a4 a5 a6 a7 a8 a9 a10 a11 a12 a13 = some (decide (TaskP a0 a1 a2 a3 a5 a6 a7 a8 a9 a10 a11 a12 a13 ∧ a1 = 2)) := by
  unfold impl_isFixed.f impl_TaskOk.f
  by_cases h : a1 = 2
  · rw [if_pos h]
    simp [h]
  · rw [if_neg h]
    simp [h]
theorem fixedBefore_eq (k : Nat) (a0 a1 a2 a3 : Int) (a4 : Bool) (a5 a6 a7 a8 a9 a10 a11 a12 a13 : Int) (b0 b1 b2 b3 : Int) (b4 : Bool) (b5 b6 b7 b8 b9 b10 b11 b12 b13 : Int) : impl_FixedBefore.f k a0 a1 a2 a3 a4 a5 a6 a7 a8 a9 a10 a11 a12 a13 b0 b1 b2 b3 b4 b5 b6 b7 b8 b9 b10 b11 b12 b13 = spec_FixedBefore.f k a0 a1 a2 a3 a4 a5 a6 a7 a8 a9 a10 a11 a12 a13 b0 b1 b2 b3 b4 b5 b6 b7 b8 b9 b10 b11 b12 b13 := by
  unfold impl_FixedBefore.f spec_FixedBefore.f
  simp only [isFixed_eq, sisFixed_eq]
  cases k <;> simp only [impl_FixedBefore.j0, spec_FixedBefore.j0]
theorem before_eq (k : Nat) (a0 a1 a2 a3 : Int) (a4 : Bool) (a5 a6 a7 a8 a9 a10 a11 a12 a13 : Int) (b0 b1 b2 b3 : Int) (b4 : Bool) (b5 b6 b7 b8 b9 b10 b11 b12 b13 : Int) : impl_Before.f (k + 2) a0 a1 a2 a3 a4 a5 a6 a7 a8 a9 a10 a11 a12 a13 b0 b1 b2 b3 b4 b5 b6 b7 b8 b9 b10 b11 b12 b13 = some (decide (before ⟨a0, a1, a2, a3, a4, a5, a6, a7, a8, a9, a10, a11, a12, a13⟩ ⟨b0, b1, b2, b3, b4, b5, b6, b7, b8, b9, b10, b11, b12, b13⟩)) := by
  unfold impl_Before.f
  simp only [impl_TaskOk.f, impl_Before.j0, dueBefore_eq, fixedBefore_eq, fairBefore_eq, dueB, fixB, fairB, Option.bind_some, decide_eq_true_eq, dNot]
  by_cases h : TaskP a0 a1 a2 a3 a5 a6 a7 a8 a9 a10 a11 a12 a13 <;> by_cases g : TaskP b0 b1 b2 b3 b5 b6 b7 b8 b9 b10 b11 b12 b13
  · rw [if_pos h, if_neg (fun f => f g)]
    simp only [dTrue, dIte]
    refine congrArg some (decide_eq_decide.2 ?_)
    have hh : Tk.ok ⟨a0, a1, a2, a3, a4, a5, a6, a7, a8, a9, a10, a11, a12, a13⟩ := h
    have gg : Tk.ok ⟨b0, b1, b2, b3, b4, b5, b6, b7, b8, b9, b10, b11, b12, b13⟩ := g
    simp only [before, dueLt, fixLt, fairLt, hh, gg, true_and, and_true]
    by_cases e : a1 = b1
    · subst e
      simp only [true_and, not_true_eq_false, not_false_eq_true, false_and, or_false, Int.lt_irrefl, false_or]
      omega
    · omega
  · rw [if_pos h, if_pos g]
    exact congrArg some (decide_eq_false fun z => g z.2.1).symm
  · rw [if_neg h, if_pos trivial]
    exact congrArg some (decide_eq_false fun z => h z.1).symm
  · rw [if_neg h, if_pos trivial]
    exact congrArg some (decide_eq_false fun z => h z.1).symm
theorem iBef_ev (a0 a1 a2 a3 : Int) (a4 : Bool) (a5 a6 a7 a8 a9 a10 a11 a12 a13 : Int) (b0 b1 b2 b3 : Int) (b4 : Bool) (b5 b6 b7 b8 b9 b10 b11 b12 b13 : Int) : Ev (fun k => impl_Before.f k a0 a1 a2 a3 a4 a5 a6 a7 a8 a9 a10 a11 a12 a13 b0 b1 b2 b3 b4 b5 b6 b7 b8 b9 b10 b11 b12 b13) (decide (before ⟨a0, a1, a2, a3, a4, a5, a6, a7, a8, a9, a10, a11, a12, a13⟩ ⟨b0, b1, b2, b3, b4, b5, b6, b7, b8, b9, b10, b11, b12, b13⟩)) := Ev.of (fun k => impl_Before.mono a0 a1 a2 a3 a4 a5 a6 a7 a8 a9 a10 a11 a12 a13 b0 b1 b2 b3 b4 b5 b6 b7 b8 b9 b10 b11 b12 b13 k) (before_eq 0 a0 a1 a2 a3 a4 a5 a6 a7 a8 a9 a10 a11 a12 a13 b0 b1 b2 b3 b4 b5 b6 b7 b8 b9 b10 b11 b12 b13)
theorem tOk_no (t : S25) (h : tOk t) : t.f0 ≠ 0 := by
  unfold tOk TaskP at h
  omega
theorem first_loop (L : List S25) (hl : L.length ≤ 1048576000) (ok : ∀ t ∈ L, tOk t) : ∀ (d i : Nat) (m : S25), L.length - i = d → i ≤ L.length → (m.f0 = 0 ∧ L.take i = [] ∨ isBest (fun t => t ∈ L.take i) m) → ∃ r, Ev (fun k => impl_first.l0 k L (L.length : Int) (i : Int) m.f0 m.f1 m.f2 m.f3 m.f4 m.f5 m.f6 m.f7 m.f8 m.f9 m.f10 m.f11 m.f12 m.f13) r ∧ ((r = 0 ∧ L = []) ∨ ∃ m, r = m.f0 ∧ isBest (fun t => t ∈ L) m) := by
  intro d
  induction d with
  | zero =>
    intro i m hd hi hm
    rw [List.take_of_length_le (by omega)] at hm
    refine ⟨m.f0, ?_, ?_⟩
    · refine Ev.step (fun k => by simp only [impl_first.l0]; rfl) ?_
      exact evNeg (by omega) (Ev.now _)
    · rcases hm with h | h
      · exact .inl h
      · exact .inr ⟨m, rfl, h⟩
  | succ d ih =>
    intro i m hd hi hm
    have hi2 : i < L.length := by omega
    have e : wrap64 ((i : Int) + 1) = ((i + 1 : Nat) : Int) := by rw [wr _ (by omega) (by omega)]; omega
    have mem : ∀ t, t ∈ L.take (i + 1) ↔ t ∈ L.take i ∨ t = L[i] := by
      intro t
      rw [List.take_succ_eq_append_getElem hi2, List.mem_append, List.mem_singleton]
    have head : ∀ r, (m.f0 = 0 → Ev (fun k => impl_first.l0 k L (L.length : Int) ((i + 1 : Nat) : Int) (L[i]).f0 (L[i]).f1 (L[i]).f2 (L[i]).f3 (L[i]).f4 (L[i]).f5 (L[i]).f6 (L[i]).f7 (L[i]).f8 (L[i]).f9 (L[i]).f10 (L[i]).f11 (L[i]).f12 (L[i]).f13) r) → (m.f0 ≠ 0 → Ev (fun k => if decide (before (tk L[i]) (tk m)) = true then (impl_first.l0 k L (L.length : Int) ((i + 1 : Nat) : Int) (L[i]).f0 (L[i]).f1 (L[i]).f2 (L[i]).f3 (L[i]).f4 (L[i]).f5 (L[i]).f6 (L[i]).f7 (L[i]).f8 (L[i]).f9 (L[i]).f10 (L[i]).f11 (L[i]).f12 (L[i]).f13) else (impl_first.l0 k L (L.length : Int) ((i + 1 : Nat) : Int) m.f0 m.f1 m.f2 m.f3 m.f4 m.f5 m.f6 m.f7 m.f8 m.f9 m.f10 m.f11 m.f12 m.f13)) r) → Ev (fun k => impl_first.l0 k L (L.length : Int) (i : Int) m.f0 m.f1 m.f2 m.f3 m.f4 m.f5 m.f6 m.f7 m.f8 m.f9 m.f10 m.f11 m.f12 m.f13) r := by
      intro r h1 h2
      refine Ev.step (fun k => by simp only [impl_first.l0]; rfl) ?_
      refine evPos (by omega) (evPos (by omega) (evPos (by omega) ?_))
      rw [rdT L i hi2, e]
      by_cases h : m.f0 = 0
      · exact evPos h (h1 h)
      · exact evNeg h (Ev.bind (iBef_ev (L[i]).f0 (L[i]).f1 (L[i]).f2 (L[i]).f3 (L[i]).f4 (L[i]).f5 (L[i]).f6 (L[i]).f7 (L[i]).f8 (L[i]).f9 (L[i]).f10 (L[i]).f11 (L[i]).f12 (L[i]).f13 m.f0 m.f1 m.f2 m.f3 m.f4 m.f5 m.f6 m.f7 m.f8 m.f9 m.f10 m.f11 m.f12 m.f13) (h2 h))
    by_cases h0 : m.f0 = 0
    · have hn : L.take i = [] := by
        rcases hm with h | h
        · exact h.2
        · exact absurd h0 (tOk_no m (ok m (List.mem_of_mem_take h.1)))
      obtain ⟨r, h, g⟩ := ih (i + 1) L[i] (by omega) (by omega) (.inr (best_one _ _ fun t => by rw [mem, hn]; simp))
      exact ⟨r, head r (fun _ => h) (fun x => absurd h0 x), g⟩
    · have hb : isBest (fun t => t ∈ L.take i) m := hm.resolve_left fun x => h0 x.1
      have st := best_step _ (fun t => t ∈ L.take (i + 1)) m L[i] hb mem
      by_cases hx : before (tk L[i]) (tk m)
      · rw [if_pos hx] at st
        obtain ⟨r, h, g⟩ := ih (i + 1) L[i] (by omega) (by omega) (.inr st)
        exact ⟨r, head r (fun x => absurd x h0) (fun _ => evPos (decide_eq_true hx) h), g⟩
      · rw [if_neg hx] at st
        obtain ⟨r, h, g⟩ := ih (i + 1) m (by omega) (by omega) (.inr st)
        exact ⟨r, head r (fun x => absurd x h0) (fun _ => evNeg (by rw [decide_eq_true_eq]; exact hx) h), g⟩
theorem first_ev (L : List S25) (hl : L.length ≤ 1048576000) (ok : ∀ t ∈ L, tOk t) : ∃ r, Ev (fun k => impl_first.f k L) r ∧ ((r = 0 ∧ L = []) ∨ ∃ m, r = m.f0 ∧ isBest (fun t => t ∈ L) m) := by
  have := first_loop L hl ok L.length 0 ⟨0, 0, 0, 0, false, 0, 0, 0, 0, 0, 0, 0, 0, 0⟩ (by omega) (by omega) (.inl ⟨rfl, rfl⟩)
  exact this
theorem idxF_find {α : Type} (p : α → Bool) : ∀ (l : List α) (i : Int), (idxF p l i = -1 ∧ ∀ t ∈ l, p t = false) ∨ ∃ j : Nat, ∃ h : j < l.length, idxF p l i = i + (j : Int) ∧ p l[j] = true := by
  intro l
  induction l with
  | nil => intro i; exact .inl ⟨rfl, fun t ht => absurd ht (by simp)⟩
  | cons x r ih =>
    intro i
    rw [idxF]
    by_cases h : p x = true
    · rw [if_pos h]
      exact .inr ⟨0, by simp, by simp, h⟩
    · rw [if_neg h]
      rcases ih (i + 1) with ⟨e, g⟩ | ⟨j, hj, e, g⟩
      · refine .inl ⟨e, fun t ht => ?_⟩
        rcases List.mem_cons.1 ht with rfl | ht
        · exact Bool.eq_false_iff.2 h
        · exact g t ht
      · refine .inr ⟨j + 1, by simp only [List.length_cons]; omega, by rw [e]; omega, ?_⟩
        rw [List.getElem_cons_succ]
        exact g
theorem ts_up (l : List S25) (hs : tsFrom l 0) : ∀ (d i : Nat) (h : i + d + 1 < l.length), (l[i]).f0 < (l[i + d + 1]).f0 := by
  intro d
  induction d with
  | zero => intro i h; exact (hs.1 (i + 1) (by omega) h).2 (by omega)
  | succ d ih =>
    intro i h
    have a := ih i (by omega)
    have b := (hs.1 (i + (d + 1) + 1) (by omega) h).2 (by omega)
    exact Int.lt_trans a b
theorem ts_one (l : List S25) (hs : tsFrom l 0) (i j : Nat) (hi : i < l.length) (hj : j < l.length) (h : (l[i]).f0 = (l[j]).f0) : i = j := by
  rcases Nat.lt_trichotomy i j with g | g | g
  · have := ts_up l hs (j - i - 1) i (by omega)
    have e : i + (j - i - 1) + 1 = j := by omega
    simp only [e] at this
    omega
  · exact g
  · have := ts_up l hs (i - j - 1) j (by omega)
    have e : j + (i - j - 1) + 1 = i := by omega
    simp only [e] at this
    omega
theorem iBest_loop (l : List S25) (n : List Int) (hl : l.length ≤ 12) (hn : n.length ≤ 1048576000) (hs : tsFrom l 0) : ∀ (d i : Nat) (acc : List S25), n.length - i = d → i ≤ n.length → acc.length ≤ i → (∀ t, t ∈ acc ↔ t ∈ l ∧ t.f0 ∈ n.take i) → ∃ r, Ev (fun k => impl_BestOf.l0 k l acc n (n.length : Int) (i : Int)) r ∧ ((r = 0 ∧ ∀ t, ¬ (t ∈ l ∧ t.f0 ∈ n)) ∨ ∃ m, r = m.f0 ∧ isBest (fun t => t ∈ l ∧ t.f0 ∈ n) m) := by
  have ok : ∀ t ∈ l, tOk t := by
    intro t ht
    obtain ⟨j, hj, e⟩ := List.getElem_of_mem ht
    rw [← e]
    exact (hs.1 j (by omega) hj).1
  intro d
  induction d with
  | zero =>
    intro i acc hd hi ha hm
    rw [List.take_of_length_le (by omega)] at hm
    obtain ⟨r, h, g⟩ := first_ev acc (by omega) (fun t ht => ok t ((hm t).1 ht).1)
    refine ⟨r, ?_, ?_⟩
    · refine Ev.step (fun k => by simp only [impl_BestOf.l0]; rfl) ?_
      exact evNeg (by omega) (Ev.bind h (Ev.now _))
    · rcases g with ⟨g, e⟩ | ⟨m, g, b⟩
      · refine .inl ⟨g, fun t ht => ?_⟩
        rw [e] at hm
        exact absurd ((hm t).2 ht) (by simp)
      · exact .inr ⟨m, g, ⟨(hm m).1 b.1, fun t ht => b.2 t ((hm t).2 ht)⟩⟩
  | succ d ih =>
    intro i acc hd hi ha hm
    have hi2 : i < n.length := by omega
    have e : wrap64 ((i : Int) + 1) = ((i + 1 : Nat) : Int) := by rw [wr _ (by omega) (by omega)]; omega
    have mem : ∀ v, v ∈ n.take (i + 1) ↔ v ∈ n.take i ∨ v = n[i] := by
      intro t
      rw [List.take_succ_eq_append_getElem hi2, List.mem_append, List.mem_singleton]
    rcases idxF_find (fun t : S25 => t.f0 == n[i]) l 0 with ⟨q, g⟩ | ⟨j, hj, q, g⟩
    · obtain ⟨r, h, w⟩ := ih (i + 1) acc (by omega) (by omega) (by omega) (fun t => by
        rw [hm, mem]
        constructor
        · exact fun x => ⟨x.1, .inl x.2⟩
        · rintro ⟨x, y | y⟩
          · exact ⟨x, y⟩
          · have := g t x
            simp [y] at this)
      refine ⟨r, ?_, w⟩
      refine Ev.step (fun k => by simp only [impl_BestOf.l0, impl_TaskAt.f, Option.bind_some]; rfl) ?_
      refine evPos (by omega) (evPos (by omega) (evPos (by omega) ?_))
      rw [rd_at n i hi2, q, e]
      exact evNeg (by omega) h
    · have gj : (l[j]).f0 = n[i] := by simpa using g
      obtain ⟨r, h, w⟩ := ih (i + 1) (acc ++ [l[j]]) (by omega) (by omega) (by rw [List.length_append, List.length_singleton]; omega) (fun t => by
        rw [List.mem_append, List.mem_singleton, hm, mem]
        constructor
        · rintro (x | x)
          · exact ⟨x.1, .inl x.2⟩
          · rw [x]
            exact ⟨List.getElem_mem hj, .inr gj⟩
        · rintro ⟨x, y | y⟩
          · exact .inl ⟨x, y⟩
          · obtain ⟨j2, hj2, e2⟩ := List.getElem_of_mem x
            have := ts_one l hs j2 j hj2 hj (by rw [e2, y, gj])
            subst this
            exact .inr e2.symm)
      refine ⟨r, ?_, w⟩
      refine Ev.step (fun k => by simp only [impl_BestOf.l0, impl_TaskAt.f, Option.bind_some]; rfl) ?_
      refine evPos (by omega) (evPos (by omega) (evPos (by omega) ?_))
      rw [rd_at n i hi2, q, e, show (0 : Int) + (j : Int) = (j : Int) by omega, rdT l j hj]
      exact evPos (by omega) (evPos (by omega) (evPos (by omega) (evPos (by omega) h)))
theorem iTasksOk_loop (l : List S25) (hl : l.length ≤ 1048576000) : ∀ (k i : Nat), l.length - i < k → impl_TasksOk.l0 k l l (l.length : Int) (i : Int) = some (decide (tsFrom l i)) := by
  intro k
  induction k with
  | zero => intro i h; omega
  | succ k ih =>
    intro i h
    simp only [impl_TasksOk.l0, impl_TaskOk.f, Option.bind_some]
    by_cases hi : i < l.length
    · rw [if_pos (by omega), if_pos (by omega), if_pos (by omega), rdT l i hi, wr ((i : Int) + 1) (by omega) (by omega)]
      have es := tsFrom_step l i hi
      by_cases ht : tOk l[i]
      · rw [show decide (TaskP (l[i]).f0 (l[i]).f1 (l[i]).f2 (l[i]).f3 (l[i]).f5 (l[i]).f6 (l[i]).f7 (l[i]).f8 (l[i]).f9 (l[i]).f10 (l[i]).f11 (l[i]).f12 (l[i]).f13) = true from decide_eq_true ht, if_pos rfl]
        have en := ih (i + 1) (by omega)
        by_cases h0 : 0 < i
        · rw [if_pos (by omega), wr ((i : Int) - 1) (by omega) (by omega), if_pos (by omega), if_pos (by omega), show (i : Int) - 1 = ((i - 1 : Nat) : Int) by omega, rdT l (i - 1) (by omega)]
          by_cases hc : (l[i - 1]).f0 ≥ (l[i]).f0
          · rw [if_pos hc]
            exact congrArg some (decide_eq_false fun x => by have := (es.1 x).1.2 h0; omega).symm
          · rw [if_neg hc]
            refine en.trans (congrArg some (decide_eq_decide.2 ?_))
            exact ⟨fun x => es.2 ⟨⟨ht, fun _ => by omega⟩, x⟩, fun x => (es.1 x).2⟩
        · rw [if_neg (by omega)]
          refine en.trans (congrArg some (decide_eq_decide.2 ?_))
          exact ⟨fun x => es.2 ⟨⟨ht, fun z => absurd z h0⟩, x⟩, fun x => (es.1 x).2⟩
      · rw [show decide (TaskP (l[i]).f0 (l[i]).f1 (l[i]).f2 (l[i]).f3 (l[i]).f5 (l[i]).f6 (l[i]).f7 (l[i]).f8 (l[i]).f9 (l[i]).f10 (l[i]).f11 (l[i]).f12 (l[i]).f13) = false from decide_eq_false ht, if_neg (by decide)]
        exact congrArg some (decide_eq_false fun x => ht (es.1 x).1.1).symm
    · rw [if_neg (by omega)]
      refine congrArg some (decide_eq_decide.2 ?_)
      rw [tsFrom_end l i hi]
      omega
theorem iTasksOk_ev (l : List S25) (hl : l.length ≤ 1048576000) : Ev (fun k => impl_TasksOk.f k l) (decide (tsFrom l 0)) := by
  refine Ev.of (fun k => impl_TasksOk.mono l k) (k := l.length + 1) ?_
  unfold impl_TasksOk.f
  exact iTasksOk_loop l hl (l.length + 1) 0 (by omega)
theorem szTasks (l : List S63) (hm : l.length ≤ maxLen) : (l.length ≤ 1048576 ∧ laws_szTaskS.f l 1048576 = some (1048576 - (l.length : Int))) ∨ laws_szTaskS.f l 1048576 = some (-1) := by
  unfold laws_szTaskS.f
  unfold maxLen at hm
  rw [wr _ (by omega) (by omega)]
  by_cases h : 1048576 - (l.length : Int) < 0
  · exact .inr (if_pos h)
  · exact .inl ⟨by omega, if_neg h⟩
theorem full {α : Type} (l : List α) (d : α) (i : Nat) (h : l.length ≤ i) : l.take i ++ List.replicate (l.length - i) d = l := by
  rw [List.take_of_length_le h, show l.length - i = 0 by omega, List.replicate_zero, List.append_nil]
theorem set_step {α : Type} (l : List α) (d : α) (i : Nat) (h : i < l.length) : (l.take i ++ List.replicate (l.length - i) d).set i l[i] = l.take (i + 1) ++ List.replicate (l.length - (i + 1)) d := by
  have hl : (l.take i).length = i := by rw [List.length_take]; omega
  rw [List.set_append_right _ _ (by omega), hl, Nat.sub_self, show l.length - i = (l.length - (i + 1)) + 1 by omega, List.replicate_succ, List.set_cons_zero, List.take_succ_eq_append_getElem h, List.append_assoc]
  rfl
theorem toInts_loop (l : List Int) (hl : l.length ≤ maxLen) (d : Nat) : ∀ (k i : Nat), l.length - i ≤ d → d < k → laws_toIntS.l0 k l (l.take i ++ List.replicate (l.length - i) 0) (i : Int) = some l := by
  unfold maxLen at hl
  induction d with
  | zero =>
    intro k i hd hk
    obtain ⟨k, rfl⟩ : ∃ m, k = m + 1 := ⟨k - 1, by omega⟩
    simp only [laws_toIntS.l0]
    rw [if_neg (by omega), full l 0 i (by omega)]
  | succ d ih =>
    intro k i hd hk
    obtain ⟨k, rfl⟩ : ∃ m, k = m + 1 := ⟨k - 1, by omega⟩
    simp only [laws_toIntS.l0]
    by_cases h : i < l.length
    · rw [if_pos (by omega), if_pos (by omega), if_pos (by rw [List.length_append, List.length_take, List.length_replicate]; omega), rd_at l i h, Int.toNat_natCast, set_step l 0 i h, wr _ (by omega) (by omega)]
      exact ih k (i + 1) (by omega) (by omega)
    · rw [if_neg (by omega), full l 0 i (by omega)]
theorem toInts_ev (l : List Int) (hl : l.length ≤ 35184372088832) : Ev (fun k => laws_toIntS.f k l) l := by
  refine Ev.of (fun k => laws_toIntS.mono l k) (k := l.length + 1) ?_
  unfold laws_toIntS.f
  rw [if_pos (by omega), if_pos (by simp only [Int.toNat_natCast]; exact hl), Int.toNat_natCast]
  have := toInts_loop l (by unfold maxLen; omega) l.length (l.length + 1) 0 (by omega) (by omega)
  simpa using this
def toT (x : S63) : S25 := ⟨x.f0, x.f1, x.f2, x.f3, x.f4, x.f5, x.f6, x.f7, x.f8, x.f9, x.f10, x.f11, x.f12, x.f13⟩
theorem map_step {α β : Type} (f : α → β) (l : List α) (d : β) (i : Nat) (h : i < l.length) : ((l.map f).take i ++ List.replicate (l.length - i) d).set i (f l[i]) = (l.map f).take (i + 1) ++ List.replicate (l.length - (i + 1)) d := by
  have := set_step (l.map f) d i (by simpa using h)
  simpa using this
theorem rdLT (l : List S63) (i : Nat) (h : i < l.length) : rd_T63 l (i : Int) = l[i] := by
  unfold rd_T63
  rw [Int.toNat_natCast, List.getD_eq_getElem?_getD, List.getElem?_eq_getElem h, Option.getD_some]
theorem toTasks_loop (l : List S63) (hl : l.length ≤ 1048576) : ∀ (k i : Nat), l.length - i < k → laws_toTaskS.l0 k l ((l.map toT).take i ++ List.replicate (l.length - i) z25) (i : Int) = some (l.map toT) := by
  intro k
  induction k with
  | zero => intro i h; omega
  | succ k ih =>
    intro i h
    simp only [laws_toTaskS.l0, laws_toTask.f, Option.bind_some]
    by_cases hi : i < l.length
    · rw [if_pos (by omega), if_pos (by omega), if_pos (by rw [List.length_append, List.length_take, List.length_replicate, List.length_map]; omega), rdLT l i hi, Int.toNat_natCast, wr _ (by omega) (by omega)]
      have e := map_step toT l z25 i hi
      unfold toT at e ⊢
      rw [e]
      exact ih (i + 1) (by omega)
    · rw [if_neg (by omega)]
      have e := full (l.map toT) z25 i (by rw [List.length_map]; omega)
      rw [List.length_map] at e
      rw [e]
theorem toTasks_ev (l : List S63) (hl : l.length ≤ 1048576) : Ev (fun k => laws_toTaskS.f k l) (l.map toT) := by
  refine Ev.of (fun k => laws_toTaskS.mono l k) (k := l.length + 1) ?_
  unfold laws_toTaskS.f
  rw [if_pos (by omega), if_pos (by simp only [Int.toNat_natCast]; omega), Int.toNat_natCast]
  have := toTasks_loop l hl (l.length + 1) 0 (by omega)
  simpa using this
theorem FnExactBestOf : laws_FnExactBestOf.Pure := by
  intro l n hm _ hn _
  refine Ev.rounds (r := true) ?_
  unfold laws_FnExactBestOf.f
  by_cases hb : (n.length : Int) > 1048576
  · exact evPos hb (Ev.now _)
  refine evNeg hb ?_
  rcases szTasks l hm with ⟨hl, e⟩ | e
  · rw [e]
    simp only [Option.bind_some]
    refine evNeg (by omega) ?_
    have ht := toTasks_ev l hl
    have hl2 : (l.map toT).length ≤ 1048576000 := by rw [List.length_map]; omega
    have hi := toInts_ev n (by omega)
    obtain ⟨r, hs, hv⟩ : ∃ r, Ev (fun k => spec_BestOf.f k (l.map toT) n) r ∧ Ev (fun k => impl_BestOf.f k (l.map toT) n) r := by
      have hts := sTasksOk_ev (l.map toT) hl2
      have hti := iTasksOk_ev (l.map toT) hl2
      generalize l.map toT = L at *
      unfold spec_BestOf.f impl_BestOf.f
      by_cases hs : tsFrom L 0
      · obtain ⟨r, h, w⟩ := best_loop L n hs.2 (by omega) (fun i h => (hs.1 i (by omega) h).1) hs L.length 0 (-1) (by omega) (by omega) (.inl ⟨rfl, fun t x => by simpa using x.1⟩)
        obtain ⟨r2, h2, w2⟩ := iBest_loop L n hs.2 (by omega) hs n.length 0 [] (by omega) (by omega) (by simp) (fun t => by simp)
        have er : r2 = r := by
          rcases w with ⟨w, x⟩ | ⟨m, w, x⟩ <;> rcases w2 with ⟨w2, x2⟩ | ⟨m2, w2, x2⟩
          · omega
          · exact absurd x2.1 (x m2)
          · exact absurd x.1 (x2 m)
          · rw [w, w2]
            refine best_no _ (fun t y => ?_) m2 m x2 x
            obtain ⟨j, hj, q⟩ := List.getElem_of_mem y.1
            rw [← q]
            exact (hs.1 j (by omega) hj).1
        rw [er] at h2
        refine ⟨r, h, Ev.bind hti ?_⟩
        exact evPos (decide_eq_true hs) h2
      · refine ⟨0, ?_, Ev.bind hti (evNeg (by rw [decide_eq_true_eq]; exact hs) (Ev.now _))⟩
        refine Ev.step (fun k => by simp only [spec_BestOf.l0]; rfl) ?_
        have jump : Ev (fun k => spec_BestOf.j1 k L n (-1) 0 false) 0 := by
          refine Ev.step (fun k => by simp only [spec_BestOf.j1]; rfl) ?_
          exact evNeg (by decide) (evPos (by omega) (Ev.now _))
        by_cases h0 : (0 : Int) < (L.length : Int)
        · refine evPos h0 (Ev.bind hts ?_)
          rw [decide_eq_false hs]
          exact jump
        · exact evNeg h0 jump
    refine Ev.bind ht (Ev.bind hi (Ev.bind hs (Ev.bind ht (Ev.bind hi (Ev.bind hv (evPos rfl ?_))))))
    refine Ev.bind ht (Ev.bind (eqTasks_ev _ hl2) (evPos rfl (Ev.bind hi (Ev.bind (eqInts_ev n hn) (evPos rfl (Ev.now _))))))
  · rw [e]
    simp only [Option.bind_some]
    exact evPos (by omega) (Ev.now _)

end Go.Proofs.Ytnokdjkkgcpbdac.Pure
