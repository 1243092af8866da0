/- The pure statement of FnBest, over numbers and lists: the best of drawn numbers is one of them, a task, and none of them is before it. Conditions: those of the statement (the drawn bytes lie in memory). -/
import Derived.Test.YtphkgmdbdnjmbaaPrintLawsFnBest
set_option linter.unusedVariables false
set_option linter.unusedSimpArgs false
namespace Go.Proofs.Ytphkgmdbdnjmbaa.Pure
open Go.RowKit Go.Proofs.Ytphkgmdbdnjmbaa.Print Go.Proofs.YtphkgmdbdnjmbaaW.PrintWords Go.Proofs.YtphkgmdbdnjmbaaW.PrintLast Go.Proofs.YtphkgmdbdnjmbaaW.PrintMore Go.Proofs.Ytphkgmdbdnjmbaa.Base

/-! A task as one value, and who stands ahead of whom. -/
structure Tk where
  (f0 f1 f2 f3 : Int)
  f4 : Bool
  (f5 f6 f7 f8 f9 f10 f11 f12 f13 : Int)
def Tk.ok (t : Tk) : Prop := TaskP t.f0 t.f1 t.f2 t.f3 t.f5 t.f6 t.f7 t.f8 t.f9 t.f10 t.f11 t.f12 t.f13
instance (t : Tk) : Decidable (Tk.ok t) := by unfold Tk.ok; infer_instance
def dueLt (a b : Tk) : Prop := (Tk.ok a ∧ a.f1 = 1) ∧ (Tk.ok b ∧ b.f1 = 1) ∧ (a.f8 < b.f8 ∨ a.f8 = b.f8 ∧ a.f0 < b.f0)
instance (a b : Tk) : Decidable (dueLt a b) := by unfold dueLt; infer_instance
def fairLt (a b : Tk) : Prop := (Tk.ok a ∧ a.f1 = 3) ∧ (Tk.ok b ∧ b.f1 = 3) ∧ (a.f13 < b.f13 ∨ a.f13 = b.f13 ∧ a.f0 < b.f0)
instance (a b : Tk) : Decidable (fairLt a b) := by unfold fairLt; infer_instance
def fixLt (a b : Tk) : Prop := (Tk.ok a ∧ a.f1 = 2) ∧ (Tk.ok b ∧ b.f1 = 2) ∧ (a.f9 > b.f9 ∨ a.f9 = b.f9 ∧ (a.f11 < b.f11 ∨ a.f11 = b.f11 ∧ a.f0 < b.f0))
instance (a b : Tk) : Decidable (fixLt a b) := by unfold fixLt; infer_instance
def before (a b : Tk) : Prop := Tk.ok a ∧ Tk.ok b ∧ (a.f1 < b.f1 ∨ dueLt a b ∨ fixLt a b ∨ fairLt a b)
instance (a b : Tk) : Decidable (before a b) := by unfold before; infer_instance
def tk (t : S27) : Tk := ⟨t.f0, t.f1, t.f2, t.f3, t.f4, t.f5, t.f6, t.f7, t.f8, t.f9, t.f10, t.f11, t.f12, t.f13⟩
/-- No task of the list goes before m; m is one of them. -/
def isBest (P : S27 → Prop) (m : S27) : Prop := P m ∧ ∀ t, P t → ¬ before (tk t) (tk m)
/-- What the best of some numbers is. -/
def bestR (L : List S27) (n : List Int) (r : Int) : Prop := (r = 0 ∧ ∀ t, ¬ (t ∈ L ∧ t.f0 ∈ n)) ∨ ∃ m, r = m.f0 ∧ isBest (fun t => t ∈ L ∧ t.f0 ∈ n) m
theorem before_irrefl (a : Tk) : ¬ before a a := by
  rintro ⟨ha, _, h⟩
  simp only [dueLt, fixLt, fairLt, ha, true_and] at h
  omega
theorem best_one (Q : S27 → Prop) (x : S27) (hQ : ∀ t, Q t ↔ t = x) : isBest Q x := ⟨(hQ x).2 rfl, fun t ht => by rw [(hQ t).1 ht]; exact before_irrefl _⟩
theorem before_trans (a b c : Tk) : before a b → before b c → before a c := by
  rintro ⟨ha, hb, h⟩ ⟨_, hc, g⟩
  refine ⟨ha, hc, ?_⟩
  simp only [dueLt, fixLt, fairLt, ha, hb, hc, true_and] at h g ⊢
  omega
theorem best_step (P Q : S27 → Prop) (m x : S27) (hm : isBest P m) (hQ : ∀ t, Q t ↔ P t ∨ t = x) : isBest Q (if before (tk x) (tk m) then x else m) := by
  by_cases h : before (tk x) (tk m)
  · rw [if_pos h]
    refine ⟨(hQ x).2 (.inr rfl), fun t ht => ?_⟩
    rcases (hQ t).1 ht with g | g
    · exact fun b => hm.2 t g (before_trans _ _ _ b h)
    · rw [g]
      exact before_irrefl _
  · rw [if_neg h]
    refine ⟨(hQ m).2 (.inl hm.1), fun t ht => ?_⟩
    rcases (hQ t).1 ht with g | g
    · exact hm.2 t g
    · rw [g]
      exact h
theorem rd_at (l : List Int) (i : Nat) (h : i < l.length) : rd l (i : Int) = l[i] := by
  unfold rd
  rw [Int.toNat_natCast, List.getD_eq_getElem?_getD, List.getElem?_eq_getElem h, Option.getD_some]
theorem has_loop (l : List Int) (hl : l.length ≤ 1048576000) (v : Int) : ∀ (d i : Nat), l.length - i = d → i ≤ l.length → Ev (fun k => spec_l7Has.l0 k l v (i : Int)) (decide (v ∈ l.drop i)) := by
  intro d
  induction d with
  | zero =>
    intro i hd hi
    refine Ev.step (fun k => by simp only [spec_l7Has.l0]; rfl) ?_
    refine evNeg (by omega) ?_
    rw [List.drop_eq_nil_of_le (by omega)]
    exact evEq _ (fun _ => rfl) (by simp)
  | succ d ih =>
    intro i hd hi
    have hi2 : i < l.length := by omega
    refine Ev.step (fun k => by simp only [spec_l7Has.l0]; rfl) ?_
    refine evPos (by omega) (evPos (by omega) ?_)
    rw [rd_at l i hi2, List.drop_eq_getElem_cons hi2, wr _ (by omega) (by omega)]
    by_cases h : l[i] = v
    · exact evPos h (evEq _ (fun _ => rfl) (by simp [h]))
    · refine evNeg h ?_
      rw [show decide (v ∈ l[i] :: l.drop (i + 1)) = decide (v ∈ l.drop (i + 1)) from decide_eq_decide.2 (by rw [List.mem_cons]; exact ⟨fun x => x.resolve_left fun e => h e.symm, .inr⟩)]
      exact ih (i + 1) (by omega) (by omega)
theorem has_ev (l : List Int) (hl : l.length ≤ 1048576000) (v : Int) : Ev (fun k => spec_l7Has.f k l v) (decide (v ∈ l)) := by
  have := has_loop l hl v l.length 0 (by omega) (by omega)
  exact this
/-! Lists of tasks: what is read of them. -/
theorem rdT (l : List S27) (i : Nat) (h : i < l.length) : rd_T27 l (i : Int) = l[i] := by
  unfold rd_T27
  rw [Int.toNat_natCast, List.getD_eq_getElem?_getD, List.getElem?_eq_getElem h, Option.getD_some]
theorem sisDue_eq (a0 a1 a2 a3 : Int) (a4 : Bool) (a5 a6 a7 a8 a9 a10 a11 a12 a13 : Int) : spec_l4Due.f a0 a1 a2 a3 a4 a5 a6 a7 a8 a9 a10 a11 a12 a13 = some (decide (TaskP a0 a1 a2 a3 a5 a6 a7 a8 a9 a10 a11 a12 a13 ∧ a1 = 1)) := by
  unfold spec_l4Due.f spec_TaskOk.f
  simp only [Option.bind_some, decide_eq_true_eq]
  by_cases h : TaskP a0 a1 a2 a3 a5 a6 a7 a8 a9 a10 a11 a12 a13
  · simp [h, dBeq]
  · simp [h]
theorem dueB (a0 a1 a2 a3 : Int) (a4 : Bool) (a5 a6 a7 a8 a9 a10 a11 a12 a13 : Int) (b0 b1 b2 b3 : Int) (b4 : Bool) (b5 b6 b7 b8 b9 b10 b11 b12 b13 : Int) : spec_DueBefore.f a0 a1 a2 a3 a4 a5 a6 a7 a8 a9 a10 a11 a12 a13 b0 b1 b2 b3 b4 b5 b6 b7 b8 b9 b10 b11 b12 b13 = some (decide (dueLt ⟨a0, a1, a2, a3, a4, a5, a6, a7, a8, a9, a10, a11, a12, a13⟩ ⟨b0, b1, b2, b3, b4, b5, b6, b7, b8, b9, b10, b11, b12, b13⟩)) := by
  unfold spec_DueBefore.f dueLt Tk.ok
  simp only [sisDue_eq, Option.bind_some, decide_eq_true_eq, dFalse, dTrue, dIte]
  refine congrArg some (decide_eq_decide.2 ?_)
  generalize (TaskP a0 a1 a2 a3 a5 a6 a7 a8 a9 a10 a11 a12 a13 ∧ a1 = 1) = P
  generalize (TaskP b0 b1 b2 b3 b5 b6 b7 b8 b9 b10 b11 b12 b13 ∧ b1 = 1) = Q
  by_cases h : P <;> by_cases g : Q <;> simp only [h, g, true_and, false_and, and_false, and_true, not_true_eq_false, not_false_eq_true, or_false]
  omega
theorem sisFair_eq (a0 a1 a2 a3 : Int) (a4 : Bool) (a5 a6 a7 a8 a9 a10 a11 a12 a13 : Int) : spec_l6Fair.f a0 a1 a2 a3 a4 a5 a6 a7 a8 a9 a10 a11 a12 a13 = some (decide (TaskP a0 a1 a2 a3 a5 a6 a7 a8 a9 a10 a11 a12 a13 ∧ a1 = 3)) := by
  unfold spec_l6Fair.f spec_TaskOk.f
  simp only [Option.bind_some, decide_eq_true_eq]
  by_cases h : TaskP a0 a1 a2 a3 a5 a6 a7 a8 a9 a10 a11 a12 a13
  · simp [h, dBeq]
  · simp [h]
theorem fairB (a0 a1 a2 a3 : Int) (a4 : Bool) (a5 a6 a7 a8 a9 a10 a11 a12 a13 : Int) (b0 b1 b2 b3 : Int) (b4 : Bool) (b5 b6 b7 b8 b9 b10 b11 b12 b13 : Int) : spec_FairBefore.f a0 a1 a2 a3 a4 a5 a6 a7 a8 a9 a10 a11 a12 a13 b0 b1 b2 b3 b4 b5 b6 b7 b8 b9 b10 b11 b12 b13 = some (decide (fairLt ⟨a0, a1, a2, a3, a4, a5, a6, a7, a8, a9, a10, a11, a12, a13⟩ ⟨b0, b1, b2, b3, b4, b5, b6, b7, b8, b9, b10, b11, b12, b13⟩)) := by
  unfold spec_FairBefore.f fairLt Tk.ok
  simp only [sisFair_eq, Option.bind_some, decide_eq_true_eq, dFalse, dTrue, dIte]
  refine congrArg some (decide_eq_decide.2 ?_)
  generalize (TaskP a0 a1 a2 a3 a5 a6 a7 a8 a9 a10 a11 a12 a13 ∧ a1 = 3) = P
  generalize (TaskP b0 b1 b2 b3 b5 b6 b7 b8 b9 b10 b11 b12 b13 ∧ b1 = 3) = Q
  by_cases h : P <;> by_cases g : Q <;> simp only [h, g, true_and, false_and, and_false, and_true, not_true_eq_false, not_false_eq_true, or_false]
  omega
theorem sisFixed_eq (a0 a1 a2 a3 : Int) (a4 : Bool) (a5 a6 a7 a8 a9 a10 a11 a12 a13 : Int) : spec_l5Fixed.f a0 a1 a2 a3 a4 a5 a6 a7 a8 a9 a10 a11 a12 a13 = some (decide (TaskP a0 a1 a2 a3 a5 a6 a7 a8 a9 a10 a11 a12 a13 ∧ a1 = 2)) := by
  unfold spec_l5Fixed.f spec_TaskOk.f
  simp only [Option.bind_some, decide_eq_true_eq]
  by_cases h : TaskP a0 a1 a2 a3 a5 a6 a7 a8 a9 a10 a11 a12 a13
  · simp [h, dBeq]
  · simp [h]
theorem fixB (k : Nat) (a0 a1 a2 a3 : Int) (a4 : Bool) (a5 a6 a7 a8 a9 a10 a11 a12 a13 : Int) (b0 b1 b2 b3 : Int) (b4 : Bool) (b5 b6 b7 b8 b9 b10 b11 b12 b13 : Int) : spec_FixedBefore.f (k + 1) a0 a1 a2 a3 a4 a5 a6 a7 a8 a9 a10 a11 a12 a13 b0 b1 b2 b3 b4 b5 b6 b7 b8 b9 b10 b11 b12 b13 = some (decide (fixLt ⟨a0, a1, a2, a3, a4, a5, a6, a7, a8, a9, a10, a11, a12, a13⟩ ⟨b0, b1, b2, b3, b4, b5, b6, b7, b8, b9, b10, b11, b12, b13⟩)) := by
  unfold spec_FixedBefore.f
  simp only [sisFixed_eq, spec_FixedBefore.j0, Option.bind_some, decide_eq_true_eq, dNot]
  by_cases h : TaskP a0 a1 a2 a3 a5 a6 a7 a8 a9 a10 a11 a12 a13 ∧ a1 = 2 <;> by_cases g : TaskP b0 b1 b2 b3 b5 b6 b7 b8 b9 b10 b11 b12 b13 ∧ b1 = 2
  · rw [if_pos h, if_neg (fun f => f g)]
    simp only [dFalse, dTrue, dIte]
    refine congrArg some (decide_eq_decide.2 ⟨fun z => ⟨h, g, show a9 > b9 ∨ a9 = b9 ∧ (a11 < b11 ∨ a11 = b11 ∧ a0 < b0) from ?_⟩, fun z => ?_⟩)
    · omega
    · have z : a9 > b9 ∨ a9 = b9 ∧ (a11 < b11 ∨ a11 = b11 ∧ a0 < b0) := z.2.2
      omega
  · rw [if_pos h, if_pos g]
    exact congrArg some (decide_eq_false fun z => g z.2.1).symm
  · rw [if_neg h, if_pos trivial]
    exact congrArg some (decide_eq_false fun z => h z.1).symm
  · rw [if_neg h, if_pos trivial]
    exact congrArg some (decide_eq_false fun z => h z.1).symm
theorem befB (k : Nat) (a0 a1 a2 a3 : Int) (a4 : Bool) (a5 a6 a7 a8 a9 a10 a11 a12 a13 : Int) (b0 b1 b2 b3 : Int) (b4 : Bool) (b5 b6 b7 b8 b9 b10 b11 b12 b13 : Int) : spec_Before.f (k + 2) a0 a1 a2 a3 a4 a5 a6 a7 a8 a9 a10 a11 a12 a13 b0 b1 b2 b3 b4 b5 b6 b7 b8 b9 b10 b11 b12 b13 = some (decide (before ⟨a0, a1, a2, a3, a4, a5, a6, a7, a8, a9, a10, a11, a12, a13⟩ ⟨b0, b1, b2, b3, b4, b5, b6, b7, b8, b9, b10, b11, b12, b13⟩)) := by
  unfold spec_Before.f
  simp only [spec_TaskOk.f, spec_Before.j0, dueB, fixB, fairB, Option.bind_some, decide_eq_true_eq, dNot]
  by_cases h : TaskP a0 a1 a2 a3 a5 a6 a7 a8 a9 a10 a11 a12 a13 <;> by_cases g : TaskP b0 b1 b2 b3 b5 b6 b7 b8 b9 b10 b11 b12 b13
  · rw [if_pos h, if_neg (fun f => f g)]
    simp only [dTrue, dIte]
    refine congrArg some (decide_eq_decide.2 ?_)
    have hh : Tk.ok ⟨a0, a1, a2, a3, a4, a5, a6, a7, a8, a9, a10, a11, a12, a13⟩ := h
    have gg : Tk.ok ⟨b0, b1, b2, b3, b4, b5, b6, b7, b8, b9, b10, b11, b12, b13⟩ := g
    simp only [before, dueLt, fixLt, fairLt, hh, gg, true_and, and_true]
    by_cases e : a1 = b1
    · subst e
      simp only [true_and, not_true_eq_false, not_false_eq_true, false_and, or_false, Int.lt_irrefl, false_or]
      omega
    · omega
  · rw [if_pos h, if_pos g]
    exact congrArg some (decide_eq_false fun z => g z.2.1).symm
  · rw [if_neg h, if_pos trivial]
    exact congrArg some (decide_eq_false fun z => h z.1).symm
  · rw [if_neg h, if_pos trivial]
    exact congrArg some (decide_eq_false fun z => h z.1).symm
theorem sBef_ev (a0 a1 a2 a3 : Int) (a4 : Bool) (a5 a6 a7 a8 a9 a10 a11 a12 a13 : Int) (b0 b1 b2 b3 : Int) (b4 : Bool) (b5 b6 b7 b8 b9 b10 b11 b12 b13 : Int) : Ev (fun k => spec_Before.f k a0 a1 a2 a3 a4 a5 a6 a7 a8 a9 a10 a11 a12 a13 b0 b1 b2 b3 b4 b5 b6 b7 b8 b9 b10 b11 b12 b13) (decide (before ⟨a0, a1, a2, a3, a4, a5, a6, a7, a8, a9, a10, a11, a12, a13⟩ ⟨b0, b1, b2, b3, b4, b5, b6, b7, b8, b9, b10, b11, b12, b13⟩)) := Ev.of (fun k => spec_Before.mono a0 a1 a2 a3 a4 a5 a6 a7 a8 a9 a10 a11 a12 a13 b0 b1 b2 b3 b4 b5 b6 b7 b8 b9 b10 b11 b12 b13 k) (befB 0 a0 a1 a2 a3 a4 a5 a6 a7 a8 a9 a10 a11 a12 a13 b0 b1 b2 b3 b4 b5 b6 b7 b8 b9 b10 b11 b12 b13)
def tOk (t : S27) : Prop := TaskP t.f0 t.f1 t.f2 t.f3 t.f5 t.f6 t.f7 t.f8 t.f9 t.f10 t.f11 t.f12 t.f13
instance (t : S27) : Decidable (tOk t) := by unfold tOk; infer_instance
/-- What makes a list of tasks right from place i on. -/
def tsFrom (l : List S27) (i : Nat) : Prop := (∀ j, i ≤ j → ∀ h : j < l.length, tOk l[j] ∧ (0 < j → (l[j - 1]).f0 < (l[j]).f0)) ∧ l.length ≤ 12
noncomputable instance (l : List S27) (i : Nat) : Decidable (tsFrom l i) := Classical.propDecidable _
theorem tsFrom_end (l : List S27) (i : Nat) (h : ¬ i < l.length) : tsFrom l i ↔ l.length ≤ 12 := ⟨fun x => x.2, fun x => ⟨fun j hj hl => absurd hl (by omega), x⟩⟩
theorem tsFrom_step (l : List S27) (i : Nat) (h : i < l.length) : tsFrom l i ↔ (tOk l[i] ∧ (0 < i → (l[i - 1]).f0 < (l[i]).f0)) ∧ tsFrom l (i + 1) := by
  constructor
  · intro x
    exact ⟨x.1 i (Nat.le_refl _) h, fun j hj hl => x.1 j (by omega) hl, x.2⟩
  · intro x
    refine ⟨fun j hj hl => ?_, x.2.2⟩
    by_cases e : j = i
    · subst e
      exact x.1
    · exact x.2.1 j (by omega) hl
theorem sTasksOk_loop (l : List S27) (hl : l.length ≤ 1048576000) : ∀ (k i : Nat), l.length - i < k → spec_TasksOk.l0 k l (i : Int) = some (decide (tsFrom l i)) := by
  intro k
  induction k with
  | zero => intro i h; omega
  | succ k ih =>
    intro i h
    simp only [spec_TasksOk.l0, spec_TaskOk.f, Option.bind_some]
    by_cases hi : i < l.length
    · rw [if_pos (by omega), if_pos (by omega), rdT l i hi, wr ((i : Int) + 1) (by omega) (by omega)]
      have es := tsFrom_step l i hi
      by_cases ht : tOk l[i]
      · rw [show decide (TaskP (l[i]).f0 (l[i]).f1 (l[i]).f2 (l[i]).f3 (l[i]).f5 (l[i]).f6 (l[i]).f7 (l[i]).f8 (l[i]).f9 (l[i]).f10 (l[i]).f11 (l[i]).f12 (l[i]).f13) = true from decide_eq_true ht, if_pos rfl]
        have en := ih (i + 1) (by omega)
        by_cases h0 : 0 < i
        · rw [if_pos (by omega), wr ((i : Int) - 1) (by omega) (by omega), if_pos (by omega), if_pos (by omega), show (i : Int) - 1 = ((i - 1 : Nat) : Int) by omega, rdT l (i - 1) (by omega)]
          by_cases hc : (l[i - 1]).f0 ≥ (l[i]).f0
          · rw [if_pos hc]
            exact congrArg some (decide_eq_false fun x => by have := (es.1 x).1.2 h0; omega).symm
          · rw [if_neg hc]
            refine en.trans (congrArg some (decide_eq_decide.2 ?_))
            exact ⟨fun x => es.2 ⟨⟨ht, fun _ => by omega⟩, x⟩, fun x => (es.1 x).2⟩
        · rw [if_neg (by omega)]
          refine en.trans (congrArg some (decide_eq_decide.2 ?_))
          exact ⟨fun x => es.2 ⟨⟨ht, fun z => absurd z h0⟩, x⟩, fun x => (es.1 x).2⟩
      · rw [show decide (TaskP (l[i]).f0 (l[i]).f1 (l[i]).f2 (l[i]).f3 (l[i]).f5 (l[i]).f6 (l[i]).f7 (l[i]).f8 (l[i]).f9 (l[i]).f10 (l[i]).f11 (l[i]).f12 (l[i]).f13) = false from decide_eq_false ht, if_neg (by decide)]
        exact congrArg some (decide_eq_false fun x => ht (es.1 x).1.1).symm
    · rw [if_neg (by omega)]
      refine congrArg some (decide_eq_decide.2 ?_)
      rw [tsFrom_end l i hi]
      omega
theorem sTasksOk_ev (l : List S27) (hl : l.length ≤ 1048576000) : Ev (fun k => spec_TasksOk.f k l) (decide (tsFrom l 0)) := by
  refine Ev.of (fun k => spec_TasksOk.mono l k) (k := l.length + 1) ?_
  unfold spec_TasksOk.f
  exact sTasksOk_loop l hl (l.length + 1) 0 (by omega)
theorem best_loop (l : List S27) (n : List Int) (hl : l.length ≤ 12) (hn : n.length ≤ 1048576000) (ok : ∀ i, ∀ h : i < l.length, tOk l[i]) (hs : tsFrom l 0) : ∀ (d i : Nat) (b : Int), l.length - i = d → i ≤ l.length → (b = -1 ∧ (∀ t, ¬ (t ∈ l.take i ∧ t.f0 ∈ n)) ∨ (∃ j : Nat, ∃ h : j < l.length, b = (j : Int) ∧ isBest (fun t => t ∈ l.take i ∧ t.f0 ∈ n) l[j])) → ∃ r, Ev (fun k => spec_BestOf.l0 k l n b (i : Int)) r ∧ ((r = 0 ∧ ∀ t, ¬ (t ∈ l ∧ t.f0 ∈ n)) ∨ ∃ m, r = m.f0 ∧ isBest (fun t => t ∈ l ∧ t.f0 ∈ n) m) := by
  intro d
  induction d with
  | zero =>
    intro i b hd hi hb
    rw [List.take_of_length_le (by omega)] at hb
    rcases hb with ⟨hb, h⟩ | ⟨j, hj, hb, h⟩
    · refine ⟨0, ?_, .inl ⟨rfl, h⟩⟩
      refine Ev.step (fun k => by simp only [spec_BestOf.l0]; rfl) ?_
      refine evNeg (by omega) ?_
      refine Ev.step (fun k => by simp only [spec_BestOf.j1]; rfl) ?_
      exact evNeg (by decide) (evPos (by omega) (Ev.now _))
    · refine ⟨(l[j]).f0, ?_, .inr ⟨l[j], rfl, h⟩⟩
      refine Ev.step (fun k => by simp only [spec_BestOf.l0]; rfl) ?_
      refine evNeg (by omega) ?_
      refine Ev.step (fun k => by simp only [spec_BestOf.j1]; rfl) ?_
      refine evNeg (by decide) (evNeg (by omega) (evPos (by omega) (evPos (by omega) ?_)))
      rw [hb, rdT l j hj]
      exact Ev.now _
  | succ d ih =>
    intro i b hd hi
    have hi2 : i < l.length := by omega
    have hd2 : l.length - (i + 1) = d := by omega
    have e : wrap64 ((i : Int) + 1) = ((i + 1 : Nat) : Int) := by rw [wr _ (by omega) (by omega)]; omega
    have p0 : (i : Int) < (l.length : Int) := by omega
    have p1 : (0 : Int) ≤ (i : Int) := by omega
    intro hb
    have mem : ∀ t, t ∈ l.take (i + 1) ↔ t ∈ l.take i ∨ t = l[i] := by
      intro t
      rw [List.take_succ_eq_append_getElem hi2, List.mem_append, List.mem_singleton]
    have go : ∀ b', (b' = -1 ∧ (∀ t, ¬ (t ∈ l.take (i + 1) ∧ t.f0 ∈ n)) ∨ (∃ j : Nat, ∃ h : j < l.length, b' = (j : Int) ∧ isBest (fun t => t ∈ l.take (i + 1) ∧ t.f0 ∈ n) l[j])) → (∀ r, Ev (fun k => spec_BestOf.l0 k l n b' ((i + 1 : Nat) : Int)) r → Ev (fun k => spec_BestOf.l0 k l n b (i : Int)) r) → ∃ r, Ev (fun k => spec_BestOf.l0 k l n b (i : Int)) r ∧ ((r = 0 ∧ ∀ t, ¬ (t ∈ l ∧ t.f0 ∈ n)) ∨ ∃ m, r = m.f0 ∧ isBest (fun t => t ∈ l ∧ t.f0 ∈ n) m) := by
      intro b' hb' hr
      obtain ⟨r, h, g⟩ := ih (i + 1) b' hd2 hi2 hb'
      exact ⟨r, hr r h, g⟩
    have head : ∀ (b' : Int) (r : Int), Ev (fun k => (spec_l7Has.f k n (l[i]).f0).bind fun t104 => (if t104 = true then (if b < 0 then (spec_BestOf.l0 k l n (i : Int) ((i + 1 : Nat) : Int)) else (if 0 ≤ b then (if b < (l.length : Int) then ((spec_Before.f k (l[i]).f0 (l[i]).f1 (l[i]).f2 (l[i]).f3 (l[i]).f4 (l[i]).f5 (l[i]).f6 (l[i]).f7 (l[i]).f8 (l[i]).f9 (l[i]).f10 (l[i]).f11 (l[i]).f12 (l[i]).f13 ((rd_T27 l b).f0) ((rd_T27 l b).f1) ((rd_T27 l b).f2) ((rd_T27 l b).f3) ((rd_T27 l b).f4) ((rd_T27 l b).f5) ((rd_T27 l b).f6) ((rd_T27 l b).f7) ((rd_T27 l b).f8) ((rd_T27 l b).f9) ((rd_T27 l b).f10) ((rd_T27 l b).f11) ((rd_T27 l b).f12) ((rd_T27 l b).f13)).bind fun t107 => (if t107 = true then (spec_BestOf.l0 k l n (i : Int) ((i + 1 : Nat) : Int)) else (spec_BestOf.l0 k l n b ((i + 1 : Nat) : Int)))) else (none)) else (none))) else (spec_BestOf.l0 k l n b ((i + 1 : Nat) : Int)))) r → Ev (fun k => spec_BestOf.l0 k l n b (i : Int)) r := by
      intro b' r h
      refine Ev.step (fun k => by simp only [spec_BestOf.l0]; rfl) ?_
      refine evPos (by omega) (Ev.bind (sTasksOk_ev l (by omega)) ?_)
      rw [decide_eq_true hs]
      refine Ev.step (fun k => by simp only [spec_BestOf.j1]; rfl) ?_
      refine evPos trivial (evPos (by omega) (evPos (by omega) ?_))
      rw [rdT l i hi2, e]
      exact h
    have hh := has_ev n hn (l[i]).f0
    by_cases hc : (l[i]).f0 ∈ n
    · rcases hb with ⟨hb, h⟩ | ⟨j, hj, hb, h⟩
      · refine go i (.inr ⟨i, hi2, rfl, best_one _ _ fun t => ?_⟩) fun r hr => head b r (Ev.bind hh (evPos (decide_eq_true hc) (evPos (by omega) hr)))
        constructor
        · intro x
          rcases (mem t).1 x.1 with g | g
          · exact absurd ⟨g, x.2⟩ (h t)
          · exact g
        · intro x
          rw [x]
          exact ⟨(mem _).2 (.inr rfl), hc⟩
      · have st := best_step _ (fun t => t ∈ l.take (i + 1) ∧ t.f0 ∈ n) l[j] l[i] h (fun t => by
          constructor
          · intro x
            rcases (mem t).1 x.1 with g | g
            · exact .inl ⟨g, x.2⟩
            · exact .inr g
          · rintro (x | x)
            · exact ⟨(mem t).2 (.inl x.1), x.2⟩
            · rw [x]
              exact ⟨(mem _).2 (.inr rfl), hc⟩)
        have bv := sBef_ev (l[i]).f0 (l[i]).f1 (l[i]).f2 (l[i]).f3 (l[i]).f4 (l[i]).f5 (l[i]).f6 (l[i]).f7 (l[i]).f8 (l[i]).f9 (l[i]).f10 (l[i]).f11 (l[i]).f12 (l[i]).f13 (l[j]).f0 (l[j]).f1 (l[j]).f2 (l[j]).f3 (l[j]).f4 (l[j]).f5 (l[j]).f6 (l[j]).f7 (l[j]).f8 (l[j]).f9 (l[j]).f10 (l[j]).f11 (l[j]).f12 (l[j]).f13
        by_cases hx : before (tk l[i]) (tk l[j])
        · rw [if_pos hx] at st
          refine go i (.inr ⟨i, hi2, rfl, st⟩) fun r hr => head b r (Ev.bind hh (evPos (decide_eq_true hc) (evNeg (by omega) (evPos (by omega) (evPos (by omega) ?_)))))
          rw [hb, rdT l j hj]
          exact Ev.bind bv (evPos (decide_eq_true hx) hr)
        · rw [if_neg hx] at st
          refine go b (.inr ⟨j, hj, hb, st⟩) fun r hr => head b r (Ev.bind hh (evPos (decide_eq_true hc) (evNeg (by omega) (evPos (by omega) (evPos (by omega) ?_)))))
          rw [hb] at hr ⊢
          rw [rdT l j hj]
          exact Ev.bind bv (evNeg (by rw [decide_eq_true_eq]; exact hx) hr)
    · have mem2 : ∀ t, (t ∈ l.take (i + 1) ∧ t.f0 ∈ n) ↔ (t ∈ l.take i ∧ t.f0 ∈ n) := by
        intro t
        constructor
        · intro x
          rcases (mem t).1 x.1 with g | g
          · exact ⟨g, x.2⟩
          · rw [g] at x
            exact absurd x.2 hc
        · exact fun x => ⟨(mem t).2 (.inl x.1), x.2⟩
      refine go b ?_ fun r hr => head b r (Ev.bind hh (evNeg (by rw [decide_eq_true_eq]; exact hc) hr))
      simp only [mem2]
      exact hb
theorem before_total (a b : Tk) (ha : Tk.ok a) (hb : Tk.ok b) (h : a.f0 ≠ b.f0) : before a b ∨ before b a := by
  have h1 : 1 ≤ a.f1 ∧ a.f1 ≤ 3 := by have := ha; unfold Tk.ok TaskP at this; omega
  simp only [before, dueLt, fixLt, fairLt, ha, hb, true_and]
  omega
theorem best_no (P : S27 → Prop) (hP : ∀ t, P t → tOk t) (m n : S27) (hm : isBest P m) (hn : isBest P n) : m.f0 = n.f0 := by
  by_cases h : m.f0 = n.f0
  · exact h
  · rcases before_total (tk m) (tk n) (hP m hm.1) (hP n hn.1) h with g | g
    · exact absurd g (hn.2 m hm.1)
    · exact absurd g (hm.2 n hn.1)
theorem isDue_eq (a0 a1 a2 a3 : Int) (a4 : Bool) (a5 a6 a7 a8 a9 a10 a11 a12 a13 : Int) : impl_isDue.f a0 a1 a2 a3 a4 a5 a6 a7 a8 a9 a10 a11 a12 a13 = some (decide (TaskP a0 a1 a2 a3 a5 a6 a7 a8 a9 a10 a11 a12 a13 ∧ a1 = 1)) := by
  unfold impl_isDue.f impl_TaskOk.f
  by_cases h : a1 = 1
  · rw [if_pos h]
    simp [h]
  · rw [if_neg h]
    simp [h]
theorem dueBefore_eq (a0 a1 a2 a3 : Int) (a4 : Bool) (a5 a6 a7 a8 a9 a10 a11 a12 a13 : Int) (b0 b1 b2 b3 : Int) (b4 : Bool) (b5 b6 b7 b8 b9 b10 b11 b12 b13 : Int) : impl_DueBefore.f a0 a1 a2 a3 a4 a5 a6 a7 a8 a9 a10 a11 a12 a13 b0 b1 b2 b3 b4 b5 b6 b7 b8 b9 b10 b11 b12 b13 = spec_DueBefore.f a0 a1 a2 a3 a4 a5 a6 a7 a8 a9 a10 a11 a12 a13 b0 b1 b2 b3 b4 b5 b6 b7 b8 b9 b10 b11 b12 b13 := by
  unfold impl_DueBefore.f spec_DueBefore.f
  simp only [isDue_eq, sisDue_eq]
theorem isFair_eq (a0 a1 a2 a3 : Int) (a4 : Bool) (a5 a6 a7 a8 a9 a10 a11 a12 a13 : Int) : impl_isFair.f a0 a1 a2 a3 a4 a5 a6 a7 a8 a9 a10 a11 a12 a13 = some (decide (TaskP a0 a1 a2 a3 a5 a6 a7 a8 a9 a10 a11 a12 a13 ∧ a1 = 3)) := by
  unfold impl_isFair.f impl_TaskOk.f
  by_cases h : a1 = 3
  · rw [if_pos h]
    simp [h]
  · rw [if_neg h]
    simp [h]
theorem fairBefore_eq (a0 a1 a2 a3 : Int) (a4 : Bool) (a5 a6 a7 a8 a9 a10 a11 a12 a13 : Int) (b0 b1 b2 b3 : Int) (b4 : Bool) (b5 b6 b7 b8 b9 b10 b11 b12 b13 : Int) : impl_FairBefore.f a0 a1 a2 a3 a4 a5 a6 a7 a8 a9 a10 a11 a12 a13 b0 b1 b2 b3 b4 b5 b6 b7 b8 b9 b10 b11 b12 b13 = spec_FairBefore.f a0 a1 a2 a3 a4 a5 a6 a7 a8 a9 a10 a11 a12 a13 b0 b1 b2 b3 b4 b5 b6 b7 b8 b9 b10 b11 b12 b13 := by
  unfold impl_FairBefore.f spec_FairBefore.f
  simp only [isFair_eq, sisFair_eq]
theorem isFixed_eq (a0 a1 a2 a3 : Int) (a4 : Bool) (a5 a6 a7 a8 a9 a10 a11 a12 a13 : Int) : impl_isFixed.f a0 a1 a2 a3 a4 a5 a6 a7 a8 a9 a10 a11 a12 a13 = some (decide (TaskP a0 a1 a2 a3 a5 a6 a7 a8 a9 a10 a11 a12 a13 ∧ a1 = 2)) := by
  unfold impl_isFixed.f impl_TaskOk.f
  by_cases h : a1 = 2
  · rw [if_pos h]
    simp [h]
  · rw [if_neg h]
    simp [h]
theorem fixedBefore_eq (k : Nat) (a0 a1 a2 a3 : Int) (a4 : Bool) (a5 a6 a7 a8 a9 a10 a11 a12 a13 : Int) (b0 b1 b2 b3 : Int) (b4 : Bool) (b5 b6 b7 b8 b9 b10 b11 b12 b13 : Int) : impl_FixedBefore.f k a0 a1 a2 a3 a4 a5 a6 a7 a8 a9 a10 a11 a12 a13 b0 b1 b2 b3 b4 b5 b6 b7 b8 b9 b10 b11 b12 b13 = spec_FixedBefore.f k a0 a1 a2 a3 a4 a5 a6 a7 a8 a9 a10 a11 a12 a13 b0 b1 b2 b3 b4 b5 b6 b7 b8 b9 b10 b11 b12 b13 := by
  unfold impl_FixedBefore.f spec_FixedBefore.f
  simp only [isFixed_eq, sisFixed_eq]
  cases k <;> simp only [impl_FixedBefore.j0, spec_FixedBefore.j0]
theorem before_eq (k : Nat) (a0 a1 a2 a3 : Int) (a4 : Bool) (a5 a6 a7 a8 a9 a10 a11 a12 a13 : Int) (b0 b1 b2 b3 : Int) (b4 : Bool) (b5 b6 b7 b8 b9 b10 b11 b12 b13 : Int) : impl_Before.f (k + 2) a0 a1 a2 a3 a4 a5 a6 a7 a8 a9 a10 a11 a12 a13 b0 b1 b2 b3 b4 b5 b6 b7 b8 b9 b10 b11 b12 b13 = some (decide (before ⟨a0, a1, a2, a3, a4, a5, a6, a7, a8, a9, a10, a11, a12, a13⟩ ⟨b0, b1, b2, b3, b4, b5, b6, b7, b8, b9, b10, b11, b12, b13⟩)) := by
  unfold impl_Before.f
  simp only [impl_TaskOk.f, impl_Before.j0, dueBefore_eq, fixedBefore_eq, fairBefore_eq, dueB, fixB, fairB, Option.bind_some, decide_eq_true_eq, dNot]
  by_cases h : TaskP a0 a1 a2 a3 a5 a6 a7 a8 a9 a10 a11 a12 a13 <;> by_cases g : TaskP b0 b1 b2 b3 b5 b6 b7 b8 b9 b10 b11 b12 b13
  · rw [if_pos h, if_neg (fun f => f g)]
    simp only [dTrue, dIte]
    refine congrArg some (decide_eq_decide.2 ?_)
    have hh : Tk.ok ⟨a0, a1, a2, a3, a4, a5, a6, a7, a8, a9, a10, a11, a12, a13⟩ := h
    have gg : Tk.ok ⟨b0, b1, b2, b3, b4, b5, b6, b7, b8, b9, b10, b11, b12, b13⟩ := g
    simp only [before, dueLt, fixLt, fairLt, hh, gg, true_and, and_true]
    by_cases e : a1 = b1
    · subst e
      simp only [true_and, not_true_eq_false, not_false_eq_true, false_and, or_false, Int.lt_irrefl, false_or]
      omega
    · omega
  · rw [if_pos h, if_pos g]
    exact congrArg some (decide_eq_false fun z => g z.2.1).symm
  · rw [if_neg h, if_pos trivial]
    exact congrArg some (decide_eq_false fun z => h z.1).symm
  · rw [if_neg h, if_pos trivial]
    exact congrArg some (decide_eq_false fun z => h z.1).symm
theorem iBef_ev (a0 a1 a2 a3 : Int) (a4 : Bool) (a5 a6 a7 a8 a9 a10 a11 a12 a13 : Int) (b0 b1 b2 b3 : Int) (b4 : Bool) (b5 b6 b7 b8 b9 b10 b11 b12 b13 : Int) : Ev (fun k => impl_Before.f k a0 a1 a2 a3 a4 a5 a6 a7 a8 a9 a10 a11 a12 a13 b0 b1 b2 b3 b4 b5 b6 b7 b8 b9 b10 b11 b12 b13) (decide (before ⟨a0, a1, a2, a3, a4, a5, a6, a7, a8, a9, a10, a11, a12, a13⟩ ⟨b0, b1, b2, b3, b4, b5, b6, b7, b8, b9, b10, b11, b12, b13⟩)) := Ev.of (fun k => impl_Before.mono a0 a1 a2 a3 a4 a5 a6 a7 a8 a9 a10 a11 a12 a13 b0 b1 b2 b3 b4 b5 b6 b7 b8 b9 b10 b11 b12 b13 k) (before_eq 0 a0 a1 a2 a3 a4 a5 a6 a7 a8 a9 a10 a11 a12 a13 b0 b1 b2 b3 b4 b5 b6 b7 b8 b9 b10 b11 b12 b13)
theorem tOk_no (t : S27) (h : tOk t) : t.f0 ≠ 0 := by
  unfold tOk TaskP at h
  omega
theorem first_loop (L : List S27) (hl : L.length ≤ 1048576000) (ok : ∀ t ∈ L, tOk t) : ∀ (d i : Nat) (m : S27), L.length - i = d → i ≤ L.length → (m.f0 = 0 ∧ L.take i = [] ∨ isBest (fun t => t ∈ L.take i) m) → ∃ r, Ev (fun k => impl_first.l0 k L (L.length : Int) (i : Int) m.f0 m.f1 m.f2 m.f3 m.f4 m.f5 m.f6 m.f7 m.f8 m.f9 m.f10 m.f11 m.f12 m.f13) r ∧ ((r = 0 ∧ L = []) ∨ ∃ m, r = m.f0 ∧ isBest (fun t => t ∈ L) m) := by
  intro d
  induction d with
  | zero =>
    intro i m hd hi hm
    rw [List.take_of_length_le (by omega)] at hm
    refine ⟨m.f0, ?_, ?_⟩
    · refine Ev.step (fun k => by simp only [impl_first.l0]; rfl) ?_
      exact evNeg (by omega) (Ev.now _)
    · rcases hm with h | h
      · exact .inl h
      · exact .inr ⟨m, rfl, h⟩
  | succ d ih =>
    intro i m hd hi hm
    have hi2 : i < L.length := by omega
    have e : wrap64 ((i : Int) + 1) = ((i + 1 : Nat) : Int) := by rw [wr _ (by omega) (by omega)]; omega
    have mem : ∀ t, t ∈ L.take (i + 1) ↔ t ∈ L.take i ∨ t = L[i] := by
      intro t
      rw [List.take_succ_eq_append_getElem hi2, List.mem_append, List.mem_singleton]
    have head : ∀ r, (m.f0 = 0 → Ev (fun k => impl_first.l0 k L (L.length : Int) ((i + 1 : Nat) : Int) (L[i]).f0 (L[i]).f1 (L[i]).f2 (L[i]).f3 (L[i]).f4 (L[i]).f5 (L[i]).f6 (L[i]).f7 (L[i]).f8 (L[i]).f9 (L[i]).f10 (L[i]).f11 (L[i]).f12 (L[i]).f13) r) → (m.f0 ≠ 0 → Ev (fun k => if decide (before (tk L[i]) (tk m)) = true then (impl_first.l0 k L (L.length : Int) ((i + 1 : Nat) : Int) (L[i]).f0 (L[i]).f1 (L[i]).f2 (L[i]).f3 (L[i]).f4 (L[i]).f5 (L[i]).f6 (L[i]).f7 (L[i]).f8 (L[i]).f9 (L[i]).f10 (L[i]).f11 (L[i]).f12 (L[i]).f13) else (impl_first.l0 k L (L.length : Int) ((i + 1 : Nat) : Int) m.f0 m.f1 m.f2 m.f3 m.f4 m.f5 m.f6 m.f7 m.f8 m.f9 m.f10 m.f11 m.f12 m.f13)) r) → Ev (fun k => impl_first.l0 k L (L.length : Int) (i : Int) m.f0 m.f1 m.f2 m.f3 m.f4 m.f5 m.f6 m.f7 m.f8 m.f9 m.f10 m.f11 m.f12 m.f13) r := by
      intro r h1 h2
      refine Ev.step (fun k => by simp only [impl_first.l0]; rfl) ?_
      refine evPos (by omega) (evPos (by omega) (evPos (by omega) ?_))
      rw [rdT L i hi2, e]
      by_cases h : m.f0 = 0
      · exact evPos h (h1 h)
      · exact evNeg h (Ev.bind (iBef_ev (L[i]).f0 (L[i]).f1 (L[i]).f2 (L[i]).f3 (L[i]).f4 (L[i]).f5 (L[i]).f6 (L[i]).f7 (L[i]).f8 (L[i]).f9 (L[i]).f10 (L[i]).f11 (L[i]).f12 (L[i]).f13 m.f0 m.f1 m.f2 m.f3 m.f4 m.f5 m.f6 m.f7 m.f8 m.f9 m.f10 m.f11 m.f12 m.f13) (h2 h))
    by_cases h0 : m.f0 = 0
    · have hn : L.take i = [] := by
        rcases hm with h | h
        · exact h.2
        · exact absurd h0 (tOk_no m (ok m (List.mem_of_mem_take h.1)))
      obtain ⟨r, h, g⟩ := ih (i + 1) L[i] (by omega) (by omega) (.inr (best_one _ _ fun t => by rw [mem, hn]; simp))
      exact ⟨r, head r (fun _ => h) (fun x => absurd h0 x), g⟩
    · have hb : isBest (fun t => t ∈ L.take i) m := hm.resolve_left fun x => h0 x.1
      have st := best_step _ (fun t => t ∈ L.take (i + 1)) m L[i] hb mem
      by_cases hx : before (tk L[i]) (tk m)
      · rw [if_pos hx] at st
        obtain ⟨r, h, g⟩ := ih (i + 1) L[i] (by omega) (by omega) (.inr st)
        exact ⟨r, head r (fun x => absurd x h0) (fun _ => evPos (decide_eq_true hx) h), g⟩
      · rw [if_neg hx] at st
        obtain ⟨r, h, g⟩ := ih (i + 1) m (by omega) (by omega) (.inr st)
        exact ⟨r, head r (fun x => absurd x h0) (fun _ => evNeg (by rw [decide_eq_true_eq]; exact hx) h), g⟩
theorem first_ev (L : List S27) (hl : L.length ≤ 1048576000) (ok : ∀ t ∈ L, tOk t) : ∃ r, Ev (fun k => impl_first.f k L) r ∧ ((r = 0 ∧ L = []) ∨ ∃ m, r = m.f0 ∧ isBest (fun t => t ∈ L) m) := by
  have := first_loop L hl ok L.length 0 ⟨0, 0, 0, 0, false, 0, 0, 0, 0, 0, 0, 0, 0, 0⟩ (by omega) (by omega) (.inl ⟨rfl, rfl⟩)
  exact this
theorem idxF_find {α : Type} (p : α → Bool) : ∀ (l : List α) (i : Int), (idxF p l i = -1 ∧ ∀ t ∈ l, p t = false) ∨ ∃ j : Nat, ∃ h : j < l.length, idxF p l i = i + (j : Int) ∧ p l[j] = true := by
  intro l
  induction l with
  | nil => intro i; exact .inl ⟨rfl, fun t ht => absurd ht (by simp)⟩
  | cons x r ih =>
    intro i
    rw [idxF]
    by_cases h : p x = true
    · rw [if_pos h]
      exact .inr ⟨0, by simp, by simp, h⟩
    · rw [if_neg h]
      rcases ih (i + 1) with ⟨e, g⟩ | ⟨j, hj, e, g⟩
      · refine .inl ⟨e, fun t ht => ?_⟩
        rcases List.mem_cons.1 ht with rfl | ht
        · exact Bool.eq_false_iff.2 h
        · exact g t ht
      · refine .inr ⟨j + 1, by simp only [List.length_cons]; omega, by rw [e]; omega, ?_⟩
        rw [List.getElem_cons_succ]
        exact g
theorem ts_up (l : List S27) (hs : tsFrom l 0) : ∀ (d i : Nat) (h : i + d + 1 < l.length), (l[i]).f0 < (l[i + d + 1]).f0 := by
  intro d
  induction d with
  | zero => intro i h; exact (hs.1 (i + 1) (by omega) h).2 (by omega)
  | succ d ih =>
    intro i h
    have a := ih i (by omega)
    have b := (hs.1 (i + (d + 1) + 1) (by omega) h).2 (by omega)
    exact Int.lt_trans a b
theorem ts_one (l : List S27) (hs : tsFrom l 0) (i j : Nat) (hi : i < l.length) (hj : j < l.length) (h : (l[i]).f0 = (l[j]).f0) : i = j := by
  rcases Nat.lt_trichotomy i j with g | g | g
  · have := ts_up l hs (j - i - 1) i (by omega)
    have e : i + (j - i - 1) + 1 = j := by omega
    simp only [e] at this
    omega
  · exact g
  · have := ts_up l hs (i - j - 1) j (by omega)
    have e : j + (i - j - 1) + 1 = i := by omega
    simp only [e] at this
    omega
theorem iBest_loop (l : List S27) (n : List Int) (hl : l.length ≤ 12) (hn : n.length ≤ 1048576000) (hs : tsFrom l 0) : ∀ (d i : Nat) (acc : List S27), n.length - i = d → i ≤ n.length → acc.length ≤ i → (∀ t, t ∈ acc ↔ t ∈ l ∧ t.f0 ∈ n.take i) → ∃ r, Ev (fun k => impl_BestOf.l0 k l acc n (n.length : Int) (i : Int)) r ∧ ((r = 0 ∧ ∀ t, ¬ (t ∈ l ∧ t.f0 ∈ n)) ∨ ∃ m, r = m.f0 ∧ isBest (fun t => t ∈ l ∧ t.f0 ∈ n) m) := by
  have ok : ∀ t ∈ l, tOk t := by
    intro t ht
    obtain ⟨j, hj, e⟩ := List.getElem_of_mem ht
    rw [← e]
    exact (hs.1 j (by omega) hj).1
  intro d
  induction d with
  | zero =>
    intro i acc hd hi ha hm
    rw [List.take_of_length_le (by omega)] at hm
    obtain ⟨r, h, g⟩ := first_ev acc (by omega) (fun t ht => ok t ((hm t).1 ht).1)
    refine ⟨r, ?_, ?_⟩
    · refine Ev.step (fun k => by simp only [impl_BestOf.l0]; rfl) ?_
      exact evNeg (by omega) (Ev.bind h (Ev.now _))
    · rcases g with ⟨g, e⟩ | ⟨m, g, b⟩
      · refine .inl ⟨g, fun t ht => ?_⟩
        rw [e] at hm
        exact absurd ((hm t).2 ht) (by simp)
      · exact .inr ⟨m, g, ⟨(hm m).1 b.1, fun t ht => b.2 t ((hm t).2 ht)⟩⟩
  | succ d ih =>
    intro i acc hd hi ha hm
    have hi2 : i < n.length := by omega
    have e : wrap64 ((i : Int) + 1) = ((i + 1 : Nat) : Int) := by rw [wr _ (by omega) (by omega)]; omega
    have mem : ∀ v, v ∈ n.take (i + 1) ↔ v ∈ n.take i ∨ v = n[i] := by
      intro t
      rw [List.take_succ_eq_append_getElem hi2, List.mem_append, List.mem_singleton]
    rcases idxF_find (fun t : S27 => t.f0 == n[i]) l 0 with ⟨q, g⟩ | ⟨j, hj, q, g⟩
    · obtain ⟨r, h, w⟩ := ih (i + 1) acc (by omega) (by omega) (by omega) (fun t => by
        rw [hm, mem]
        constructor
        · exact fun x => ⟨x.1, .inl x.2⟩
        · rintro ⟨x, y | y⟩
          · exact ⟨x, y⟩
          · have := g t x
            simp [y] at this)
      refine ⟨r, ?_, w⟩
      refine Ev.step (fun k => by simp only [impl_BestOf.l0, impl_TaskAt.f, Option.bind_some]; rfl) ?_
      refine evPos (by omega) (evPos (by omega) (evPos (by omega) ?_))
      rw [rd_at n i hi2, q, e]
      exact evNeg (by omega) h
    · have gj : (l[j]).f0 = n[i] := by simpa using g
      obtain ⟨r, h, w⟩ := ih (i + 1) (acc ++ [l[j]]) (by omega) (by omega) (by rw [List.length_append, List.length_singleton]; omega) (fun t => by
        rw [List.mem_append, List.mem_singleton, hm, mem]
        constructor
        · rintro (x | x)
          · exact ⟨x.1, .inl x.2⟩
          · rw [x]
            exact ⟨List.getElem_mem hj, .inr gj⟩
        · rintro ⟨x, y | y⟩
          · exact .inl ⟨x, y⟩
          · obtain ⟨j2, hj2, e2⟩ := List.getElem_of_mem x
            have := ts_one l hs j2 j hj2 hj (by rw [e2, y, gj])
            subst this
            exact .inr e2.symm)
      refine ⟨r, ?_, w⟩
      refine Ev.step (fun k => by simp only [impl_BestOf.l0, impl_TaskAt.f, Option.bind_some]; rfl) ?_
      refine evPos (by omega) (evPos (by omega) (evPos (by omega) ?_))
      rw [rd_at n i hi2, q, e, show (0 : Int) + (j : Int) = (j : Int) by omega, rdT l j hj]
      exact evPos (by omega) (evPos (by omega) (evPos (by omega) (evPos (by omega) h)))
theorem iTasksOk_loop (l : List S27) (hl : l.length ≤ 1048576000) : ∀ (k i : Nat), l.length - i < k → impl_TasksOk.l0 k l l (l.length : Int) (i : Int) = some (decide (tsFrom l i)) := by
  intro k
  induction k with
  | zero => intro i h; omega
  | succ k ih =>
    intro i h
    simp only [impl_TasksOk.l0, impl_TaskOk.f, Option.bind_some]
    by_cases hi : i < l.length
    · rw [if_pos (by omega), if_pos (by omega), if_pos (by omega), rdT l i hi, wr ((i : Int) + 1) (by omega) (by omega)]
      have es := tsFrom_step l i hi
      by_cases ht : tOk l[i]
      · rw [show decide (TaskP (l[i]).f0 (l[i]).f1 (l[i]).f2 (l[i]).f3 (l[i]).f5 (l[i]).f6 (l[i]).f7 (l[i]).f8 (l[i]).f9 (l[i]).f10 (l[i]).f11 (l[i]).f12 (l[i]).f13) = true from decide_eq_true ht, if_pos rfl]
        have en := ih (i + 1) (by omega)
        by_cases h0 : 0 < i
        · rw [if_pos (by omega), wr ((i : Int) - 1) (by omega) (by omega), if_pos (by omega), if_pos (by omega), show (i : Int) - 1 = ((i - 1 : Nat) : Int) by omega, rdT l (i - 1) (by omega)]
          by_cases hc : (l[i - 1]).f0 ≥ (l[i]).f0
          · rw [if_pos hc]
            exact congrArg some (decide_eq_false fun x => by have := (es.1 x).1.2 h0; omega).symm
          · rw [if_neg hc]
            refine en.trans (congrArg some (decide_eq_decide.2 ?_))
            exact ⟨fun x => es.2 ⟨⟨ht, fun _ => by omega⟩, x⟩, fun x => (es.1 x).2⟩
        · rw [if_neg (by omega)]
          refine en.trans (congrArg some (decide_eq_decide.2 ?_))
          exact ⟨fun x => es.2 ⟨⟨ht, fun z => absurd z h0⟩, x⟩, fun x => (es.1 x).2⟩
      · rw [show decide (TaskP (l[i]).f0 (l[i]).f1 (l[i]).f2 (l[i]).f3 (l[i]).f5 (l[i]).f6 (l[i]).f7 (l[i]).f8 (l[i]).f9 (l[i]).f10 (l[i]).f11 (l[i]).f12 (l[i]).f13) = false from decide_eq_false ht, if_neg (by decide)]
        exact congrArg some (decide_eq_false fun x => ht (es.1 x).1.1).symm
    · rw [if_neg (by omega)]
      refine congrArg some (decide_eq_decide.2 ?_)
      rw [tsFrom_end l i hi]
      omega
theorem iTasksOk_ev (l : List S27) (hl : l.length ≤ 1048576000) : Ev (fun k => impl_TasksOk.f k l) (decide (tsFrom l 0)) := by
  refine Ev.of (fun k => impl_TasksOk.mono l k) (k := l.length + 1) ?_
  unfold impl_TasksOk.f
  exact iTasksOk_loop l hl (l.length + 1) 0 (by omega)
theorem best_both (L : List S27) (hl2 : L.length ≤ 1048576000) (n : List Int) (hn : n.length ≤ 1048576000) : ∃ r, Ev (fun k => spec_BestOf.f k L n) r ∧ Ev (fun k => impl_BestOf.f k L n) r ∧ (tsFrom L 0 → bestR L n r) ∧ (¬ tsFrom L 0 → r = 0) := by
  have hts := sTasksOk_ev L hl2
  have hti := iTasksOk_ev L hl2
  unfold spec_BestOf.f impl_BestOf.f
  by_cases hs : tsFrom L 0
  · obtain ⟨r, h, w⟩ := best_loop L n hs.2 (by omega) (fun i h => (hs.1 i (by omega) h).1) hs L.length 0 (-1) (by omega) (by omega) (.inl ⟨rfl, fun t x => by simpa using x.1⟩)
    obtain ⟨r2, h2, w2⟩ := iBest_loop L n hs.2 (by omega) hs n.length 0 [] (by omega) (by omega) (by simp) (fun t => by simp)
    have er : r2 = r := by
      rcases w with ⟨w, x⟩ | ⟨m, w, x⟩ <;> rcases w2 with ⟨w2, x2⟩ | ⟨m2, w2, x2⟩
      · omega
      · exact absurd x2.1 (x m2)
      · exact absurd x.1 (x2 m)
      · rw [w, w2]
        refine best_no _ (fun t y => ?_) m2 m x2 x
        obtain ⟨j, hj, q⟩ := List.getElem_of_mem y.1
        rw [← q]
        exact (hs.1 j (by omega) hj).1
    rw [er] at h2
    exact ⟨r, h, Ev.bind hti (evPos (decide_eq_true hs) h2), fun _ => w, fun z => absurd hs z⟩
  · refine ⟨0, ?_, Ev.bind hti (evNeg (by rw [decide_eq_true_eq]; exact hs) (Ev.now _)), fun z => absurd z hs, fun _ => rfl⟩
    refine Ev.step (fun k => by simp only [spec_BestOf.l0]; rfl) ?_
    have jump : Ev (fun k => spec_BestOf.j1 k L n (-1) 0 false) 0 := by
      refine Ev.step (fun k => by simp only [spec_BestOf.j1]; rfl) ?_
      exact evNeg (by decide) (evPos (by omega) (Ev.now _))
    by_cases h0 : (0 : Int) < (L.length : Int)
    · refine evPos h0 (Ev.bind hts ?_)
      rw [decide_eq_false hs]
      exact jump
    · exact evNeg h0 jump
/-! A draw answers, and with what. -/
def En {α : Type} (f : Nat → Option α) (Q : α → Prop) : Prop := ∃ r, Ev f r ∧ Q r
theorem En.bind {α β : Type} {f : Nat → Option α} {P : α → Prop} {g : α → Nat → Option β} {Q : β → Prop} (h : En f P) (hg : ∀ r, P r → En (fun k => g r k) Q) : En (fun k => (f k).bind (fun r => g r k)) Q := by
  obtain ⟨r, e, p⟩ := h
  obtain ⟨s, e2, q⟩ := hg r p
  exact ⟨s, Ev.bind e e2, q⟩
theorem En.ite {α : Type} {c : Prop} [Decidable c] {f g : Nat → Option α} {Q : α → Prop} (h : c → En f Q) (h' : ¬ c → En g Q) : En (fun k => if c then f k else g k) Q := by
  by_cases hc : c
  · obtain ⟨r, e, q⟩ := h hc
    exact ⟨r, evPos hc e, q⟩
  · obtain ⟨r, e, q⟩ := h' hc
    exact ⟨r, evNeg hc e, q⟩
theorem En.now {α : Type} {r : α} {Q : α → Prop} (h : Q r) : En (fun _ => some r) Q := ⟨r, Ev.now r, h⟩
theorem En.step {α : Type} {f g : Nat → Option α} {Q : α → Prop} (h : ∀ k, f (k + 1) = g k) (e : En g Q) : En f Q := by
  obtain ⟨r, e, q⟩ := e
  exact ⟨r, Ev.step h e, q⟩
theorem En.of {α : Type} {o : Option α} {P : α → Prop} (h : ∃ r, o = some r ∧ P r) : En (fun _ => o) P := by
  obtain ⟨r, e, p⟩ := h
  exact ⟨r, ⟨0, fun _ _ => e⟩, p⟩
theorem and255 (x : Int) : 0 ≤ Go.bits .and .i64 x 255 ∧ Go.bits .and .i64 x 255 ≤ 255 := by
  have e : Go.bits .and .i64 x 255 = IntKind.i64.wrap (((BitVec.ofInt 64 x) &&& (BitVec.ofInt 64 255)).toNat : Nat) := rfl
  have h : ((BitVec.ofInt 64 x) &&& (BitVec.ofInt 64 255)).toNat ≤ 255 := by rw [BitVec.toNat_and]; exact Nat.and_le_right
  rw [e, IntKind.wrap_i64]
  omega
theorem byte_some (l : List Int) (hl : l.length ≤ maxLen) (i h : Int) (h0 : 0 ≤ i) : ∃ b i' h', spec_l1Byte.f l i h = some (b, i', h') ∧ 0 ≤ b ∧ b ≤ 255 ∧ 0 ≤ i' := by
  unfold maxLen at hl
  unfold spec_l1Byte.f
  by_cases e : i < (l.length : Int)
  · rw [if_pos e, if_pos h0, wr (i + 1) (by omega) (by omega)]
    exact ⟨_, _, _, rfl, (and255 _).1, (and255 _).2, by omega⟩
  · rw [if_neg e]
    exact ⟨_, _, _, rfl, (and255 _).1, (and255 _).2, by omega⟩
theorem below_some (l : List Int) (hl : l.length ≤ maxLen) (i h n : Int) (h0 : 0 ≤ i) : ∃ r i' h', spec_l1Below.f l i h n = some (r, i', h') ∧ 0 ≤ i' ∧ 0 ≤ r ∧ (0 < n → r < n) ∧ (n ≤ 0 → r = 0) := by
  unfold spec_l1Below.f
  by_cases e : n ≤ 0
  · rw [if_pos e]
    exact ⟨_, _, _, rfl, h0, by omega, by omega, by omega⟩
  · rw [if_neg e]
    obtain ⟨b, i1, h1, e1, b0, b1, p1⟩ := byte_some l hl i h h0
    by_cases e2 : n ≤ 256
    · rw [if_pos e2, e1]
      simp only [Option.bind_some]
      rw [if_neg (by omega)]
      have := Int.tmod_nonneg n b0
      have := Int.tmod_lt_of_pos b (show 0 < n by omega)
      exact ⟨_, _, _, rfl, p1, by omega, by omega, by omega⟩
    · rw [if_neg e2, e1]
      simp only [Option.bind_some]
      obtain ⟨c, i2, h2, e3, c0, c1, p2⟩ := byte_some l hl i1 h1 p1
      rw [e3]
      simp only [Option.bind_some]
      obtain ⟨d, i3, h3, e4, d0, d1, p3⟩ := byte_some l hl i2 h2 p2
      rw [e4]
      simp only [Option.bind_some]
      obtain ⟨f, i4, h4, e5, f0, f1, p4⟩ := byte_some l hl i3 h3 p3
      rw [e5]
      simp only [Option.bind_some]
      rw [if_neg (by omega), wr (b * 16777216) (by omega) (by omega), wr (c * 65536) (by omega) (by omega), wr (d * 256) (by omega) (by omega), wr (b * 16777216 + c * 65536) (by omega) (by omega), wr (b * 16777216 + c * 65536 + d * 256) (by omega) (by omega), wr (b * 16777216 + c * 65536 + d * 256 + f) (by omega) (by omega)]
      have := Int.tmod_nonneg n (show 0 ≤ b * 16777216 + c * 65536 + d * 256 + f by omega)
      have := Int.tmod_lt_of_pos (b * 16777216 + c * 65536 + d * 256 + f) (show 0 < n by omega)
      exact ⟨_, _, _, rfl, p4, by omega, by omega, by omega⟩
theorem belowR_en (l : List Int) (hl : l.length ≤ maxLen) (i h n : Int) (h0 : 0 ≤ i) (hn : 0 < n) : En (fun _ => spec_l1Below.f l i h n) (fun r => (0 ≤ r.1 ∧ r.1 < n) ∧ 0 ≤ r.2.1) := by
  obtain ⟨r, i', h', e, p, q, s, _⟩ := below_some l hl i h n h0
  exact En.of ⟨_, e, ⟨q, s hn⟩, p⟩
theorem below_en (l : List Int) (hl : l.length ≤ maxLen) (i h n : Int) (h0 : 0 ≤ i) : En (fun _ => spec_l1Below.f l i h n) (fun r => 0 ≤ r.2.1) := by
  obtain ⟨r, i', h', e, p, _⟩ := below_some l hl i h n h0
  exact En.of ⟨_, e, p⟩
theorem once_some (l : List Int) (hl : l.length ≤ maxLen) (i h n : Int) (h0 : 0 ≤ i) : ∃ b i' h', spec_l1Once.f l i h n = some (b, i', h') ∧ 0 ≤ i' := by
  obtain ⟨r, i', h', e, p, _⟩ := below_some l hl i h n h0
  exact ⟨r == 0, i', h', by unfold spec_l1Once.f; rw [e]; rfl, p⟩
theorem once_en (l : List Int) (hl : l.length ≤ maxLen) (i h n : Int) (h0 : 0 ≤ i) : En (fun _ => spec_l1Once.f l i h n) (fun r => 0 ≤ r.2.1) := by
  obtain ⟨r, i', h', e, p⟩ := once_some l hl i h n h0
  exact En.of ⟨_, e, p⟩
theorem drawBest_loop (l : List Int) (hl : l.length ≤ maxLen) (T : List S27) (hT : T.length ≤ 31) : ∀ (d x : Nat) (i h : Int) (y : List Int), 5 - x = d → x ≤ 5 → y.length ≤ 2 * x → 0 ≤ i → En (fun k => spec_DrawBestOf.l0 k T y (x : Int) l i h) (fun r => r.1.length ≤ 31 ∧ r.2.length ≤ 12) := by
  intro d
  induction d with
  | zero =>
    intro x i h y hd hx hy h0
    refine En.step (fun k => by simp only [spec_DrawBestOf.l0]; rfl) ?_
    refine En.bind (belowR_en l hl _ _ _ h0 (by decide)) (fun r hr => ?_)
    exact En.ite (fun z => absurd z (by omega)) (fun _ => En.now ⟨hT, show y.length ≤ 12 by omega⟩)
  | succ d ih =>
    intro x i h y hd hx hy h0
    have e : wrap64 ((x : Int) + 1) = ((x + 1 : Nat) : Int) := by rw [wr _ (by omega) (by omega)]; omega
    refine En.step (fun k => by simp only [spec_DrawBestOf.l0]; rfl) ?_
    refine En.bind (belowR_en l hl _ _ _ h0 (by decide)) (fun r hr => ?_)
    refine En.ite (fun _ => ?_) (fun _ => En.now ⟨hT, show y.length ≤ 12 by omega⟩)
    refine En.bind (below_en l hl _ _ _ hr.2) (fun s hs => ?_)
    refine En.ite (fun _ => ?_) (fun z => absurd (by omega) z)
    simp only [Option.bind_some]
    rw [e]
    refine En.ite (fun g => ?_) (fun _ => ih (x + 1) _ _ _ (by omega) (by omega) (by rw [List.length_append, List.length_singleton]; omega) hs)
    refine En.bind (once_en l hl _ _ _ hs) (fun t ht => ?_)
    refine En.ite (fun _ => ih (x + 1) _ _ _ (by omega) (by omega) (by rw [List.length_append, List.length_singleton]; omega) ht) (fun _ => ?_)
    refine En.bind (belowR_en l hl _ _ _ ht g) (fun u hu => ?_)
    refine En.ite (fun _ => En.ite (fun _ => En.ite (fun _ => ?_) (fun z => absurd (by rw [List.length_append, List.length_singleton]; omega) z)) (fun z => absurd hu.1.2 z)) (fun z => absurd hu.1.1 z)
    exact ih (x + 1) _ _ _ (by omega) (by omega) (by rw [List.length_append, List.length_append, List.length_singleton, List.length_singleton]; omega) hu.2
theorem draw3j_en (l : List Int) (i h : Int) (h0 : 0 ≤ i) (a0 a1 a2 a3 : Int) (a4 : Bool) (a5 a6 a7 a8 a9 a10 a11 a12 a13 : Int) : En (fun k => spec_l3Draw.j0 k l i h a0 a1 a2 a3 a4 a5 a6 a7 a8 a9 a10 a11 a12 a13) (fun r => 0 ≤ r.2.2.2.2.2.2.2.2.2.2.2.2.2.2.1) := by
  refine En.step (fun k => by simp only [spec_l3Draw.j0]; rfl) ?_
  exact En.now h0
theorem drawRight0_en (l : List Int) (hl : l.length ≤ maxLen) (i h : Int) (h0 : 0 ≤ i) (a0 a1 a2 a3 : Int) (a4 : Bool) (a5 a6 a7 a8 a9 a10 a11 a12 a13 : Int) : En (fun k => spec_l3DrawRight.j0 k l i h a0 a1 a2 a3 a4 a5 a6 a7 a8 a9 a10 a11 a12 a13) (fun r => 0 ≤ r.2.2.2.2.2.2.2.2.2.2.2.2.2.2.1) := by
  refine En.step (fun k => by simp only [spec_l3DrawRight.j0]; rfl) ?_
  refine En.bind (once_en l hl _ _ _ h0) (fun r hr => ?_)
  refine En.ite (fun _ => ?_) (fun _ => ?_)
  all_goals
    refine En.bind (once_en l hl _ _ _ hr) (fun s hs => ?_)
    exact En.now hs
theorem sin_eq (a b c : Int) : spec_l1In.f a b c = some (decide (b ≤ a ∧ a ≤ c)) := by
  unfold spec_l1In.f
  by_cases h : a ≥ b
  · rw [if_pos h]; simp [show b ≤ a from h]
  · rw [if_neg h]; simp; omega
theorem snew_some (a0 a1 a2 a3 : Int) (a4 : Bool) (a5 a6 a7 a8 a9 a10 a11 a12 a13 : Int) : ∃ r, spec_l3New.f a0 a1 a2 a3 a4 a5 a6 a7 a8 a9 a10 a11 a12 a13 = some r := by
  unfold spec_l3New.f spec_TaskOk.f
  simp only [Option.bind_some]
  split <;> exact ⟨_, rfl⟩
theorem sshare_eq (q p : Int) : spec_ShareOk.f q p = some (decide (ShareP q p)) := by
  unfold spec_ShareOk.f ShareP
  simp only [sin_eq, Option.bind_some, decide_eq_true_eq]
  by_cases h : 1 ≤ p ∧ p ≤ 40
  · simp only [h, and_self, if_true, true_and]
  · simp only [h, if_false, false_and, decide_false]
theorem snewDue_some (no cpu q p now : Int) : ∃ r, spec_NewDue.f no cpu q p now = some r := by
  unfold spec_NewDue.f
  obtain ⟨r, hr⟩ := snew_some no 1 cpu 1 false q p q (wrap64 (now + p)) 0 0 0 0 0
  simp only [sin_eq, sshare_eq, hr, Option.bind_some]
  repeat' split
  all_goals exact ⟨_, rfl⟩
theorem snewFair_some (no cpu nice v : Int) : ∃ r, spec_NewFair.f no cpu nice v = some r := by
  unfold spec_NewFair.f
  obtain ⟨r, hr⟩ := snew_some no 3 cpu 1 false 0 0 0 0 0 0 0 nice v
  simp only [hr, Option.bind_some]
  exact ⟨_, rfl⟩
theorem snewFixed_some (no cpu prio round seq : Int) : ∃ r, spec_NewFixed.f no cpu prio round seq = some r := by
  unfold spec_NewFixed.f
  obtain ⟨r, hr⟩ := snew_some no 2 cpu 1 false 0 0 round 0 prio round seq 0 0
  simp only [hr, Option.bind_some]
  exact ⟨_, rfl⟩
theorem some_en {α : Type} {o : Option α} (h : ∃ r, o = some r) : En (fun _ => o) (fun _ => True) := by
  obtain ⟨r, e⟩ := h
  exact En.of ⟨r, e, trivial⟩
theorem drawRight_en (l : List Int) (hl : l.length ≤ maxLen) (i h : Int) (h0 : 0 ≤ i) : En (fun k => spec_l3DrawRight.f k l i h) (fun r => 0 ≤ r.2.2.2.2.2.2.2.2.2.2.2.2.2.2.1) := by
  unfold spec_l3DrawRight.f
  refine En.bind (below_en l hl _ _ _ h0) (fun r1 h1 => ?_)
  refine En.bind (below_en l hl _ _ _ h1) (fun r2 h2 => ?_)
  refine En.bind (below_en l hl _ _ _ h2) (fun r3 h3 => ?_)
  refine En.ite (fun _ => ?_) (fun _ => En.ite (fun _ => ?_) (fun _ => ?_))
  · refine En.bind (below_en l hl _ _ _ h3) (fun r4 h4 => ?_)
    refine En.bind (below_en l hl _ _ _ h4) (fun r5 h5 => ?_)
    refine En.bind (below_en l hl _ _ _ h5) (fun r6 h6 => ?_)
    refine En.bind (some_en (snewDue_some _ _ _ _ _)) (fun r7 _ => ?_)
    refine En.bind (below_en l hl _ _ _ h6) (fun r8 h8 => ?_)
    exact drawRight0_en l hl _ _ h8 _ _ _ _ _ _ _ _ _ _ _ _ _ _
  · refine En.bind (below_en l hl _ _ _ h3) (fun r4 h4 => ?_)
    refine En.bind (below_en l hl _ _ _ h4) (fun r5 h5 => ?_)
    refine En.bind (below_en l hl _ _ _ h5) (fun r6 h6 => ?_)
    refine En.bind (some_en (snewFixed_some _ _ _ _ _)) (fun r7 _ => ?_)
    refine En.ite (fun _ => ?_) (fun _ => ?_)
    · refine En.bind (below_en l hl _ _ _ h6) (fun r8 h8 => ?_)
      exact drawRight0_en l hl _ _ h8 _ _ _ _ _ _ _ _ _ _ _ _ _ _
    · exact drawRight0_en l hl _ _ h6 _ _ _ _ _ _ _ _ _ _ _ _ _ _
  · refine En.bind (below_en l hl _ _ _ h3) (fun r4 h4 => ?_)
    refine En.bind (below_en l hl _ _ _ h4) (fun r5 h5 => ?_)
    refine En.bind (some_en (snewFair_some _ _ _ _)) (fun r7 _ => ?_)
    exact drawRight0_en l hl _ _ h5 _ _ _ _ _ _ _ _ _ _ _ _ _ _
theorem pick_some (l : List Int) (hl : l.length ≤ maxLen) (i h : Int) (xs : List Int) (h0 : 0 ≤ i) (hx : 0 < xs.length) : ∃ r i' h', spec_l1PickInt.f l i h xs = some (r, i', h') ∧ 0 ≤ i' ∧ r ∈ xs := by
  unfold spec_l1PickInt.f
  obtain ⟨r, i1, h1, e, p1, r0, r1, _⟩ := below_some l hl i h (xs.length : Int) h0
  have r1 := r1 (by omega)
  rw [e]
  simp only [Option.bind_some]
  rw [if_pos r0, if_pos r1]
  refine ⟨_, _, _, rfl, p1, ?_⟩
  unfold rd
  rw [List.getD_eq_getElem?_getD, List.getElem?_eq_getElem (by omega), Option.getD_some]
  exact List.getElem_mem _
theorem pick_en (l : List Int) (hl : l.length ≤ maxLen) (i h : Int) (x : Int) (xs : List Int) (h0 : 0 ≤ i) : En (fun _ => spec_l1PickInt.f l i h (x :: xs)) (fun r => 0 ≤ r.2.1) := by
  obtain ⟨r, i', h', e, p, _⟩ := pick_some l hl i h (x :: xs) h0 (by simp)
  exact En.of ⟨_, e, p⟩
theorem draw3_en (l : List Int) (hl : l.length ≤ maxLen) (i h : Int) (h0 : 0 ≤ i) : En (fun k => spec_l3Draw.f k l i h) (fun r => 0 ≤ r.2.2.2.2.2.2.2.2.2.2.2.2.2.2.1) := by
  unfold spec_l3Draw.f
  refine En.bind (drawRight_en l hl i h h0) (fun r1 h1 => ?_)
  refine En.bind (below_en l hl _ _ _ h1) (fun r2 h2 => ?_)
  refine En.ite (fun _ => En.bind (pick_en l hl _ _ _ _ h2) (fun r3 h3 => draw3j_en l _ _ h3 _ _ _ _ _ _ _ _ _ _ _ _ _ _)) (fun _ => ?_)
  refine En.ite (fun _ => En.bind (pick_en l hl _ _ _ _ h2) (fun r3 h3 => draw3j_en l _ _ h3 _ _ _ _ _ _ _ _ _ _ _ _ _ _)) (fun _ => ?_)
  refine En.ite (fun _ => En.bind (below_en l hl _ _ _ h2) (fun r3 h3 => draw3j_en l _ _ h3 _ _ _ _ _ _ _ _ _ _ _ _ _ _)) (fun _ => ?_)
  refine En.ite (fun _ => En.bind (below_en l hl _ _ _ h2) (fun r3 h3 => draw3j_en l _ _ h3 _ _ _ _ _ _ _ _ _ _ _ _ _ _)) (fun _ => ?_)
  refine En.ite (fun _ => En.bind (below_en l hl _ _ _ h2) (fun r3 h3 => draw3j_en l _ _ h3 _ _ _ _ _ _ _ _ _ _ _ _ _ _)) (fun _ => ?_)
  refine En.ite (fun _ => En.bind (pick_en l hl _ _ _ _ h2) (fun r3 h3 => draw3j_en l _ _ h3 _ _ _ _ _ _ _ _ _ _ _ _ _ _)) (fun _ => ?_)
  refine En.ite (fun _ => En.bind (pick_en l hl _ _ _ _ h2) (fun r3 h3 => draw3j_en l _ _ h3 _ _ _ _ _ _ _ _ _ _ _ _ _ _)) (fun _ => ?_)
  refine En.ite (fun _ => En.bind (below_en l hl _ _ _ h2) (fun r3 h3 => draw3j_en l _ _ h3 _ _ _ _ _ _ _ _ _ _ _ _ _ _)) (fun _ => ?_)
  exact draw3j_en l _ _ h2 _ _ _ _ _ _ _ _ _ _ _ _ _ _
theorem sTasksOk_en (l : List S27) (hl : l.length ≤ 1048576000) : En (fun k => spec_TasksOk.f k l) (fun _ => True) := ⟨_, sTasksOk_ev l hl, trivial⟩
theorem taskPut_end (l x6 : List S27) (hl : l.length ≤ 1000) (h6 : x6.length ≤ l.length + 1) : En (fun k => (spec_TasksOk.f k x6).bind fun t => (if t = true then (some (x6, true)) else ((some (([] : List (S27)) : List (S27))).bind fun y => (if y.length + l.length < 1256584717458 then (some ((y ++ l), false)) else (none))))) (fun r => r.1.length ≤ l.length + 1) := by
  refine En.bind (sTasksOk_en x6 (by omega)) (fun t _ => ?_)
  refine En.ite (fun _ => En.now h6) (fun _ => ?_)
  simp only [Option.bind_some]
  refine En.ite (fun _ => En.now ?_) (fun h => absurd (by simp only [List.length_nil]; omega) h)
  simp only [List.nil_append]
  omega
theorem taskPut_loop (l : List S27) (hl : l.length ≤ 1000) : ∀ (d i : Nat) (x6 : List S27) (x7 : Bool) (a0 a1 a2 a3 : Int) (a4 : Bool) (a5 a6 a7 a8 a9 a10 a11 a12 a13 : Int), l.length - i = d → i ≤ l.length → x6.length ≤ i + x7.toNat → En (fun k => spec_TaskPut.l0 k l x6 x7 (i : Int) a0 a1 a2 a3 a4 a5 a6 a7 a8 a9 a10 a11 a12 a13) (fun r => r.1.length ≤ l.length + 1) := by
  intro d
  induction d with
  | zero =>
    intro i x6 x7 a0 a1 a2 a3 a4 a5 a6 a7 a8 a9 a10 a11 a12 a13 hd hi hx
    refine En.step (fun k => by simp only [spec_TaskPut.l0]; rfl) ?_
    refine En.ite (fun h => absurd h (by omega)) (fun _ => ?_)
    cases x7 with
    | true =>
      simp only [Bool.toNat_true] at hx
      exact En.ite (fun _ => taskPut_end l x6 hl (by omega)) (fun h => absurd rfl h)
    | false =>
      simp only [Bool.toNat_false] at hx
      refine En.ite (fun h => absurd h (by decide)) (fun _ => ?_)
      refine En.ite (fun _ => ?_) (fun h => absurd (by omega) h)
      simp only [Option.bind_some]
      exact taskPut_end l _ hl (by rw [List.length_append, List.length_singleton]; omega)
  | succ d ih =>
    intro i x6 x7 a0 a1 a2 a3 a4 a5 a6 a7 a8 a9 a10 a11 a12 a13 hd hi hx
    refine En.step (fun k => by simp only [spec_TaskPut.l0]; rfl) ?_
    refine En.ite (fun _ => ?_) (fun h => absurd (by omega) h)
    have e : wrap64 ((i : Int) + 1) = ((i + 1 : Nat) : Int) := by rw [wr _ (by omega) (by omega)]; omega
    cases x7 with
    | true =>
      simp only [Bool.toNat_true] at hx
      refine En.ite (fun _ => ?_) (fun h => absurd rfl h)
      refine En.ite (fun _ => ?_) (fun h => absurd (by omega) h)
      refine En.ite (fun _ => ?_) (fun h => absurd (by omega) h)
      rw [e]
      exact ih (i + 1) _ true a0 a1 a2 a3 a4 a5 a6 a7 a8 a9 a10 a11 a12 a13 (by omega) (by omega) (by rw [List.length_append, List.length_singleton, Bool.toNat_true]; omega)
    | false =>
      simp only [Bool.toNat_false] at hx
      refine En.ite (fun h => absurd h (by decide)) (fun _ => ?_)
      refine En.ite (fun _ => ?_) (fun h => absurd (by omega) h)
      refine En.ite (fun _ => ?_) (fun _ => ?_)
      · refine En.ite (fun _ => ?_) (fun h => absurd (by omega) h)
        simp only [Option.bind_some]
        refine En.ite (fun _ => ?_) (fun h => absurd (by rw [List.length_append, List.length_singleton]; omega) h)
        rw [e]
        exact ih (i + 1) _ true a0 a1 a2 a3 a4 a5 a6 a7 a8 a9 a10 a11 a12 a13 (by omega) (by omega) (by rw [List.length_append, List.length_append, List.length_singleton, List.length_singleton, Bool.toNat_true]; omega)
      · refine En.ite (fun _ => ?_) (fun h => absurd (by omega) h)
        rw [e]
        exact ih (i + 1) _ false a0 a1 a2 a3 a4 a5 a6 a7 a8 a9 a10 a11 a12 a13 (by omega) (by omega) (by rw [List.length_append, List.length_singleton, Bool.toNat_false]; omega)
theorem taskPut_en (l : List S27) (hl : l.length ≤ 1000) (a0 a1 a2 a3 : Int) (a4 : Bool) (a5 a6 a7 a8 a9 a10 a11 a12 a13 : Int) : En (fun k => spec_TaskPut.f k l a0 a1 a2 a3 a4 a5 a6 a7 a8 a9 a10 a11 a12 a13) (fun r => r.1.length ≤ l.length + 1) := by
  unfold spec_TaskPut.f
  refine En.bind (sTasksOk_en l (by omega)) (fun t _ => ?_)
  refine En.ite (fun _ => taskPut_loop l hl l.length 0 [] false a0 a1 a2 a3 a4 a5 a6 a7 a8 a9 a10 a11 a12 a13 (by omega) (by omega) (by simp)) (fun _ => En.now (by simp))
theorem drawList_loop (l : List Int) (hl : l.length ≤ maxLen) (m : Nat) (hm : m ≤ 30) : ∀ (d x : Nat) (i h : Int) (y : List S27), m - x = d → x ≤ m → y.length ≤ x → 0 ≤ i → En (fun k => spec_l3DrawList.l0 k y (m : Int) (x : Int) l i h) (fun r => r.1.length ≤ 31 ∧ 0 ≤ r.2.1) := by
  intro d
  induction d with
  | zero =>
    intro x i h y hd hx hy h0
    refine En.step (fun k => by simp only [spec_l3DrawList.l0]; rfl) ?_
    refine En.ite (fun h => absurd h (by omega)) (fun _ => ?_)
    refine En.bind (once_en l hl _ _ _ h0) (fun r hr => ?_)
    refine En.ite (fun _ => ?_) (fun _ => En.now ⟨show y.length ≤ 31 by omega, hr⟩)
    refine En.bind (draw3_en l hl _ _ hr) (fun s hs => ?_)
    refine En.ite (fun _ => En.now ⟨?_, hs⟩) (fun h => absurd (by omega) h)
    rw [List.length_append, List.length_singleton]
    omega
  | succ d ih =>
    intro x i h y hd hx hy h0
    refine En.step (fun k => by simp only [spec_l3DrawList.l0]; rfl) ?_
    refine En.ite (fun _ => ?_) (fun h => absurd (by omega) h)
    have e : wrap64 ((x : Int) + 1) = ((x + 1 : Nat) : Int) := by rw [wr _ (by omega) (by omega)]; omega
    refine En.bind (drawRight_en l hl _ _ h0) (fun r hr => ?_)
    refine En.bind (taskPut_en y (by omega) _ _ _ _ _ _ _ _ _ _ _ _ _ _) (fun s hs => ?_)
    rw [e]
    exact En.ite (fun _ => ih (x + 1) _ _ _ (by omega) (by omega) (by omega) hr) (fun _ => ih (x + 1) _ _ _ (by omega) (by omega) (by omega) hr)
theorem drawList_en (l : List Int) (hl : l.length ≤ maxLen) (i h : Int) (h0 : 0 ≤ i) : En (fun k => spec_l3DrawList.f k l i h) (fun r => r.1.length ≤ 31 ∧ 0 ≤ r.2.1) := by
  unfold spec_l3DrawList.f
  simp only [Option.bind_some]
  refine En.bind (belowR_en l hl _ _ _ h0 (by decide)) (fun r hr => ?_)
  refine En.bind (once_en l hl _ _ _ hr.2) (fun s hs => ?_)
  refine En.ite (fun _ => ?_) (fun _ => ?_)
  · refine En.step (fun k => by simp only [spec_l3DrawList.j0]; rfl) ?_
    exact drawList_loop l hl 30 (by omega) 30 0 _ _ [] (by omega) (by omega) (by simp) hs
  · refine En.step (fun k => by simp only [spec_l3DrawList.j0]; rfl) ?_
    have := drawList_loop l hl r.1.toNat (by omega) r.1.toNat 0 s.2.1 s.2.2 [] (by omega) (by omega) (by simp) hs
    rw [show ((r.1.toNat : Nat) : Int) = r.1 by omega] at this
    exact this
/-! The cursor over the drawn bytes: whatever it holds, a draw answers. -/
theorem new_loop (l : List Int) (hl : l.length ≤ maxLen) (d : Nat) : ∀ (k : Nat) (h i : Int), 0 ≤ i → (l.length : Int) - i ≤ d → d < k → ∃ h', spec_l1New.l0 k l h i = some (l, 0, h') := by
  unfold maxLen at hl
  induction d with
  | zero =>
    intro k h i h0 hd hk
    obtain ⟨k, rfl⟩ : ∃ m, k = m + 1 := ⟨k - 1, by omega⟩
    exact ⟨h, by simp only [spec_l1New.l0]; rw [if_neg (by omega)]⟩
  | succ d ih =>
    intro k h i h0 hd hk
    obtain ⟨k, rfl⟩ : ∃ m, k = m + 1 := ⟨k - 1, by omega⟩
    simp only [spec_l1New.l0]
    by_cases e : i < (l.length : Int)
    · rw [if_pos e]
      by_cases e2 : i < 4000
      · rw [if_pos e2, if_pos h0, wr (i + 1) (by omega) (by omega)]
        exact ih k _ _ (by omega) (by omega) (by omega)
      · rw [if_neg e2]
        exact ⟨_, rfl⟩
    · rw [if_neg e]
      exact ⟨_, rfl⟩
theorem new_ev (l : List Int) (hl : l.length ≤ maxLen) : ∃ h, Ev (fun k => spec_l1New.f k l) (l, 0, h) := by
  obtain ⟨h, e⟩ := new_loop l hl l.length (l.length + 1) (wrap64 (18511 + (l.length : Int))) 0 (by omega) (by omega) (by omega)
  exact ⟨h, Ev.of (fun k => spec_l1New.mono l k) e⟩
theorem new_en (l : List Int) (hl : l.length ≤ maxLen) : En (fun k => spec_l1New.f k l) (fun r => r.1 = l ∧ 0 ≤ r.2.1) := by
  obtain ⟨h, e⟩ := new_ev l hl
  exact ⟨_, e, rfl, Int.le_refl _⟩
theorem drawBestOf_en (l : List Int) (hl : l.length ≤ maxLen) : En (fun k => spec_DrawBestOf.f k l) (fun r => r.1.length ≤ 31 ∧ r.2.length ≤ 12) := by
  unfold spec_DrawBestOf.f
  refine En.bind (new_en l hl) (fun r hr => ?_)
  rw [hr.1]
  refine En.bind (drawList_en l hl _ _ hr.2) (fun s hs => ?_)
  exact drawBest_loop l hl s.1 hs.1 5 0 _ _ [] (by omega) (by omega) (by simp) hs.2
theorem within_loop (l : List Int) (hl : l.length ≤ 1048576000) (v : Int) : ∀ (d i : Nat), l.length - i = d → i ≤ l.length → Ev (fun k => laws_within.l0 k l v (i : Int)) (decide (v ∈ l.drop i)) := by
  intro d
  induction d with
  | zero =>
    intro i hd hi
    refine Ev.step (fun k => by simp only [laws_within.l0]; rfl) ?_
    refine evNeg (by omega) ?_
    rw [List.drop_eq_nil_of_le (by omega)]
    exact evEq _ (fun _ => rfl) (by simp)
  | succ d ih =>
    intro i hd hi
    have hi2 : i < l.length := by omega
    refine Ev.step (fun k => by simp only [laws_within.l0]; rfl) ?_
    refine evPos (by omega) (evPos (by omega) ?_)
    rw [rd_at l i hi2, List.drop_eq_getElem_cons hi2, wr _ (by omega) (by omega)]
    by_cases h : l[i] = v
    · exact evPos h (evEq _ (fun _ => rfl) (by simp [h]))
    · refine evNeg h ?_
      rw [show decide (v ∈ l[i] :: l.drop (i + 1)) = decide (v ∈ l.drop (i + 1)) from decide_eq_decide.2 (by rw [List.mem_cons]; exact ⟨fun x => x.resolve_left fun e => h e.symm, .inr⟩)]
      exact ih (i + 1) (by omega) (by omega)
theorem within_ev (l : List Int) (hl : l.length ≤ 1048576000) (v : Int) : Ev (fun k => laws_within.f k l v) (decide (v ∈ l)) := within_loop l hl v l.length 0 (by omega) (by omega)
theorem fnBest_end (L : List S27) (n : List Int) (hn : n.length ≤ 1000) (r a x : Int) (h : r = 0 ∨ (r ∈ n ∧ 0 ≤ a)) : Ev (fun k => laws_FnBest.j1 k L n r a x false) true := by
  refine Ev.step (fun k => by simp only [laws_FnBest.j1]; rfl) ?_
  refine evNeg (by decide) ?_
  by_cases h0 : r = 0
  · exact evPos h0 (Ev.now _)
  · obtain ⟨h1, h2⟩ := h.resolve_left h0
    refine evNeg h0 (Ev.bind (within_ev n (by omega) r) (evPos (decide_eq_true h1) ?_))
    exact evEq _ (fun _ => rfl) (congrArg some (decide_eq_true h2))
theorem fnBest_loop (L : List S27) (hL : L.length ≤ 1000) (n : List Int) (hn : n.length ≤ 1000) (r a : Int) (hs : tsFrom L 0) (he : r = 0 ∨ (r ∈ n ∧ 0 ≤ a))
    (hg : ∀ t, t ∈ L → t.f0 ∈ n → ∃ j : Nat, ∃ hj : j < L.length, a = (j : Int) ∧ ¬ before (tk t) (tk L[j])) : ∀ (d i : Nat), n.length - i = d → i ≤ n.length → Ev (fun k => laws_FnBest.l0 k L n r a (i : Int)) true := by
  intro d
  induction d with
  | zero =>
    intro i hd hi
    refine Ev.step (fun k => by simp only [laws_FnBest.l0]; rfl) ?_
    exact evNeg (by omega) (fnBest_end L n hn r a _ he)
  | succ d ih =>
    intro i hd hi
    have hi2 : i < n.length := by omega
    have e : wrap64 ((i : Int) + 1) = ((i + 1 : Nat) : Int) := by rw [wr _ (by omega) (by omega)]; omega
    refine Ev.step (fun k => by simp only [laws_FnBest.l0]; rfl) ?_
    refine evPos (by omega) (Ev.bind (sTasksOk_ev L (by omega)) ?_)
    rw [decide_eq_true hs]
    refine Ev.step (fun k => by simp only [laws_FnBest.j1, impl_TaskAt.f, Option.bind_some]; rfl) ?_
    refine evPos (by trivial) (evPos (by omega) (evPos (by omega) ?_))
    rw [rd_at n i hi2]
    have jf : Ev (fun k => laws_FnBest.j2 k L n r a (i : Int) false) true := by
      refine Ev.step (fun k => by simp only [laws_FnBest.j2]; rfl) ?_
      refine evNeg (by decide) ?_
      rw [e]
      exact ih (i + 1) (by omega) (by omega)
    rcases idxF_find (fun t : S27 => t.f0 == n[i]) L 0 with ⟨q, _⟩ | ⟨j, hj, q, g⟩
    · rw [q]
      exact evNeg (by decide) jf
    · have gj : (L[j]).f0 = n[i] := by simpa using g
      obtain ⟨j2, hj2, ea, hb⟩ := hg L[j] (List.getElem_mem hj) (by rw [gj]; exact List.getElem_mem hi2)
      rw [q, show (0 : Int) + (j : Int) = (j : Int) by omega, ea]
      rw [ea] at jf
      refine evPos (by omega) (evNeg (by omega) (evPos (by omega) (evPos (by omega) (evPos (by omega) (evPos (by omega) ?_)))))
      rw [rdT L j hj, rdT L j2 hj2]
      have bv := iBef_ev (L[j]).f0 (L[j]).f1 (L[j]).f2 (L[j]).f3 (L[j]).f4 (L[j]).f5 (L[j]).f6 (L[j]).f7 (L[j]).f8 (L[j]).f9 (L[j]).f10 (L[j]).f11 (L[j]).f12 (L[j]).f13 (L[j2]).f0 (L[j2]).f1 (L[j2]).f2 (L[j2]).f3 (L[j2]).f4 (L[j2]).f5 (L[j2]).f6 (L[j2]).f7 (L[j2]).f8 (L[j2]).f9 (L[j2]).f10 (L[j2]).f11 (L[j2]).f12 (L[j2]).f13
      refine Ev.bind bv ?_
      rw [show decide (before ⟨(L[j]).f0, (L[j]).f1, (L[j]).f2, (L[j]).f3, (L[j]).f4, (L[j]).f5, (L[j]).f6, (L[j]).f7, (L[j]).f8, (L[j]).f9, (L[j]).f10, (L[j]).f11, (L[j]).f12, (L[j]).f13⟩ ⟨(L[j2]).f0, (L[j2]).f1, (L[j2]).f2, (L[j2]).f3, (L[j2]).f4, (L[j2]).f5, (L[j2]).f6, (L[j2]).f7, (L[j2]).f8, (L[j2]).f9, (L[j2]).f10, (L[j2]).f11, (L[j2]).f12, (L[j2]).f13⟩) = false from decide_eq_false hb]
      exact jf
theorem FnBest : laws_FnBest.Pure := by
  intro l hl _ _
  refine Ev.rounds (r := true) ?_
  unfold laws_FnBest.f laws_big.f
  simp only [Option.bind_some, decide_eq_true_eq]
  by_cases hb : (l.length : Int) > 1048576
  · exact evPos hb (Ev.now _)
  · refine evNeg hb ?_
    obtain ⟨⟨L, n⟩, e, hL, hn⟩ := drawBestOf_en l hl
    have hL : L.length ≤ 31 := hL
    have hn : n.length ≤ 12 := hn
    refine Ev.bind e ?_
    simp only []
    obtain ⟨r, h1, h2, h3, h4⟩ := best_both L (by omega) n (by omega)
    refine Ev.bind h2 (Ev.bind h1 (evPos (by trivial) ?_))
    simp only [impl_TaskAt.f, Option.bind_some]
    by_cases hs : tsFrom L 0
    · rcases h3 hs with ⟨h5, h6⟩ | ⟨m, h5, h6⟩
      · exact fnBest_loop L (by omega) n (by omega) r _ hs (.inl h5) (fun t ht hm => absurd ⟨ht, hm⟩ (h6 t)) n.length 0 (by omega) (by omega)
      · obtain ⟨⟨hm1, hm2⟩, h7⟩ := h6
        obtain ⟨jm, hjm, ejm⟩ := List.getElem_of_mem hm1
        have ha : ∃ j : Nat, ∃ hj : j < L.length, idxF (fun t : S27 => t.f0 == r) L 0 = (j : Int) ∧ L[j] = m := by
          rcases idxF_find (fun t : S27 => t.f0 == r) L 0 with ⟨_, g⟩ | ⟨j, hj, q, g⟩
          · have := g m hm1
            rw [h5] at this
            simp at this
          · have gj : (L[j]).f0 = r := by simpa using g
            have := ts_one L hs j jm hj hjm (by rw [gj, h5, ejm])
            subst this
            exact ⟨j, hj, by rw [q]; omega, ejm⟩
        obtain ⟨j, hj, ea, em⟩ := ha
        refine fnBest_loop L (by omega) n (by omega) r _ hs (.inr ⟨by rw [h5]; exact hm2, by rw [ea]; omega⟩) (fun t ht hm => ⟨j, hj, ea, ?_⟩) n.length 0 (by omega) (by omega)
        rw [em]
        exact h7 t ⟨ht, hm⟩
    · have h0 := h4 hs
      refine Ev.step (fun k => by simp only [laws_FnBest.l0]; rfl) ?_
      by_cases hp : (0 : Int) < (n.length : Int)
      · refine evPos hp (Ev.bind (sTasksOk_ev L (by omega)) ?_)
        rw [decide_eq_false hs]
        exact fnBest_end L n (by omega) r _ _ (.inl h0)
      · exact evNeg hp (fnBest_end L n (by omega) r _ _ (.inl h0))

end Go.Proofs.Ytphkgmdbdnjmbaa.Pure
