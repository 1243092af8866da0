/- The pure statement of FnExactBefore: at all arguments the program's Before and the reference's agree, as plain functions over numbers and lists. Conditions: those of the statement (numbers of 64 bits, lists that lie in memory). -/
import Derived.Test.YtnokdjkkgcpbdaaPrint38
set_option linter.unusedVariables false
set_option linter.unusedSimpArgs false
namespace Go.Proofs.Ytnokdjkkgcpbdaa.Pure
open Go.RowKit Go.Proofs.Ytnokdjkkgcpbdaa.Print Go.Proofs.YtnokdjkkgcpbdaaW.PrintWords Go.Proofs.YtnokdjkkgcpbdaaW.PrintLast Go.Proofs.YtnokdjkkgcpbdaaW.PrintMore Go.Proofs.Ytnokdjkkgcpbdaa.Base

/-! A task as one value, and who is before whom. -/
structure Tk where
  (f0 f1 f2 f3 : Int)
  f4 : Bool
  (f5 f6 f7 f8 f9 f10 f11 f12 f13 : Int)
def Tk.ok (t : Tk) : Prop := TaskP t.f0 t.f1 t.f2 t.f3 t.f5 t.f6 t.f7 t.f8 t.f9 t.f10 t.f11 t.f12 t.f13
instance (t : Tk) : Decidable t.ok := by unfold Tk.ok; infer_instance
def dueLt (a b : Tk) : Prop := (a.ok ∧ a.f1 = 1) ∧ (b.ok ∧ b.f1 = 1) ∧ (a.f8 < b.f8 ∨ a.f8 = b.f8 ∧ a.f0 < b.f0)
def fixLt (a b : Tk) : Prop := (a.ok ∧ a.f1 = 2) ∧ (b.ok ∧ b.f1 = 2) ∧ (a.f9 > b.f9 ∨ a.f9 = b.f9 ∧ (a.f11 < b.f11 ∨ a.f11 = b.f11 ∧ a.f0 < b.f0))
def fairLt (a b : Tk) : Prop := (a.ok ∧ a.f1 = 3) ∧ (b.ok ∧ b.f1 = 3) ∧ (a.f13 < b.f13 ∨ a.f13 = b.f13 ∧ a.f0 < b.f0)
instance (a b : Tk) : Decidable (dueLt a b) := by unfold dueLt; infer_instance
instance (a b : Tk) : Decidable (fixLt a b) := by unfold fixLt; infer_instance
instance (a b : Tk) : Decidable (fairLt a b) := by unfold fairLt; infer_instance
def before (a b : Tk) : Prop := a.ok ∧ b.ok ∧ (a.f1 < b.f1 ∨ dueLt a b ∨ fixLt a b ∨ fairLt a b)
instance (a b : Tk) : Decidable (before a b) := by unfold before; infer_instance
theorem before_irrefl (a : Tk) : ¬ before a a := by
  rintro ⟨ha, _, h⟩
  simp only [dueLt, fixLt, fairLt, ha, true_and] at h
  omega
theorem before_asymm (a b : Tk) : before a b → ¬ before b a := by
  rintro ⟨ha, hb, h⟩ ⟨_, _, g⟩
  simp only [dueLt, fixLt, fairLt, ha, hb, true_and] at h g
  omega
theorem before_trans (a b c : Tk) : before a b → before b c → before a c := by
  rintro ⟨ha, hb, h⟩ ⟨_, hc, g⟩
  refine ⟨ha, hc, ?_⟩
  simp only [dueLt, fixLt, fairLt, ha, hb, hc, true_and] at h g ⊢
  omega
theorem before_total (a b : Tk) (ha : a.ok) (hb : b.ok) (h : a.f0 ≠ b.f0) : before a b ∨ before b a := by
  have h1 : 1 ≤ a.f1 ∧ a.f1 ≤ 3 := by have := ha; unfold Tk.ok TaskP at this; omega
  simp only [before, dueLt, fixLt, fairLt, ha, hb, true_and]
  omega
theorem isDue_eq (a0 a1 a2 a3 : Int) (a4 : Bool) (a5 a6 a7 a8 a9 a10 a11 a12 a13 : Int) : impl_isDue.f a0 a1 a2 a3 a4 a5 a6 a7 a8 a9 a10 a11 a12 a13 = some (decide (TaskP a0 a1 a2 a3 a5 a6 a7 a8 a9 a10 a11 a12 a13 ∧ a1 = 1)) := by
  unfold impl_isDue.f impl_TaskOk.f
  by_cases h : a1 = 1
  · rw [if_pos h]
    simp [h]
  · rw [if_neg h]
    simp [h]
theorem sisDue_eq (a0 a1 a2 a3 : Int) (a4 : Bool) (a5 a6 a7 a8 a9 a10 a11 a12 a13 : Int) : spec_l4Due.f a0 a1 a2 a3 a4 a5 a6 a7 a8 a9 a10 a11 a12 a13 = some (decide (TaskP a0 a1 a2 a3 a5 a6 a7 a8 a9 a10 a11 a12 a13 ∧ a1 = 1)) := by
  unfold spec_l4Due.f spec_TaskOk.f
  simp only [Option.bind_some, decide_eq_true_eq]
  by_cases h : TaskP a0 a1 a2 a3 a5 a6 a7 a8 a9 a10 a11 a12 a13
  · simp [h, dBeq]
  · simp [h]
theorem isFair_eq (a0 a1 a2 a3 : Int) (a4 : Bool) (a5 a6 a7 a8 a9 a10 a11 a12 a13 : Int) : impl_isFair.f a0 a1 a2 a3 a4 a5 a6 a7 a8 a9 a10 a11 a12 a13 = some (decide (TaskP a0 a1 a2 a3 a5 a6 a7 a8 a9 a10 a11 a12 a13 ∧ a1 = 3)) := by
  unfold impl_isFair.f impl_TaskOk.f
  by_cases h : a1 = 3
  · rw [if_pos h]
    simp [h]
  · rw [if_neg h]
    simp [h]
theorem sisFair_eq (a0 a1 a2 a3 : Int) (a4 : Bool) (a5 a6 a7 a8 a9 a10 a11 a12 a13 : Int) : spec_l6Fair.f a0 a1 a2 a3 a4 a5 a6 a7 a8 a9 a10 a11 a12 a13 = some (decide (TaskP a0 a1 a2 a3 a5 a6 a7 a8 a9 a10 a11 a12 a13 ∧ a1 = 3)) := by
  unfold spec_l6Fair.f spec_TaskOk.f
  simp only [Option.bind_some, decide_eq_true_eq]
  by_cases h : TaskP a0 a1 a2 a3 a5 a6 a7 a8 a9 a10 a11 a12 a13
  · simp [h, dBeq]
  · simp [h]
theorem isFixed_eq (a0 a1 a2 a3 : Int) (a4 : Bool) (a5 a6 a7 a8 a9 a10 a11 a12 a13 : Int) : impl_isFixed.f a0 a1 a2 a3 a4 a5 a6 a7 a8 a9 a10 a11 a12 a13 = some (decide (TaskP a0 a1 a2 a3 a5 a6 a7 a8 a9 a10 a11 a12 a13 ∧ a1 = 2)) := by
  unfold impl_isFixed.f impl_TaskOk.f
  by_cases h : a1 = 2
  · rw [if_pos h]
    simp [h]
  · rw [if_neg h]
    simp [h]
theorem sisFixed_eq (a0 a1 a2 a3 : Int) (a4 : Bool) (a5 a6 a7 a8 a9 a10 a11 a12 a13 : Int) : spec_l5Fixed.f a0 a1 a2 a3 a4 a5 a6 a7 a8 a9 a10 a11 a12 a13 = some (decide (TaskP a0 a1 a2 a3 a5 a6 a7 a8 a9 a10 a11 a12 a13 ∧ a1 = 2)) := by
  unfold spec_l5Fixed.f spec_TaskOk.f
  simp only [Option.bind_some, decide_eq_true_eq]
  by_cases h : TaskP a0 a1 a2 a3 a5 a6 a7 a8 a9 a10 a11 a12 a13
  · simp [h, dBeq]
  · simp [h]
theorem dueBefore_eq (a0 a1 a2 a3 : Int) (a4 : Bool) (a5 a6 a7 a8 a9 a10 a11 a12 a13 : Int) (b0 b1 b2 b3 : Int) (b4 : Bool) (b5 b6 b7 b8 b9 b10 b11 b12 b13 : Int) : impl_DueBefore.f a0 a1 a2 a3 a4 a5 a6 a7 a8 a9 a10 a11 a12 a13 b0 b1 b2 b3 b4 b5 b6 b7 b8 b9 b10 b11 b12 b13 = spec_DueBefore.f a0 a1 a2 a3 a4 a5 a6 a7 a8 a9 a10 a11 a12 a13 b0 b1 b2 b3 b4 b5 b6 b7 b8 b9 b10 b11 b12 b13 := by
  unfold impl_DueBefore.f spec_DueBefore.f
  simp only [isDue_eq, sisDue_eq]
theorem sdueBefore_some (a0 a1 a2 a3 : Int) (a4 : Bool) (a5 a6 a7 a8 a9 a10 a11 a12 a13 : Int) (b0 b1 b2 b3 : Int) (b4 : Bool) (b5 b6 b7 b8 b9 b10 b11 b12 b13 : Int) : ∃ r, spec_DueBefore.f a0 a1 a2 a3 a4 a5 a6 a7 a8 a9 a10 a11 a12 a13 b0 b1 b2 b3 b4 b5 b6 b7 b8 b9 b10 b11 b12 b13 = some r := by
  unfold spec_DueBefore.f
  simp only [sisDue_eq, Option.bind_some]
  repeat' split
  all_goals exact ⟨_, rfl⟩
theorem fixedBefore_eq (k : Nat) (a0 a1 a2 a3 : Int) (a4 : Bool) (a5 a6 a7 a8 a9 a10 a11 a12 a13 : Int) (b0 b1 b2 b3 : Int) (b4 : Bool) (b5 b6 b7 b8 b9 b10 b11 b12 b13 : Int) : impl_FixedBefore.f k a0 a1 a2 a3 a4 a5 a6 a7 a8 a9 a10 a11 a12 a13 b0 b1 b2 b3 b4 b5 b6 b7 b8 b9 b10 b11 b12 b13 = spec_FixedBefore.f k a0 a1 a2 a3 a4 a5 a6 a7 a8 a9 a10 a11 a12 a13 b0 b1 b2 b3 b4 b5 b6 b7 b8 b9 b10 b11 b12 b13 := by
  unfold impl_FixedBefore.f spec_FixedBefore.f
  simp only [isFixed_eq, sisFixed_eq]
  cases k <;> simp only [impl_FixedBefore.j0, spec_FixedBefore.j0]
theorem sfixedBefore_ev (a0 a1 a2 a3 : Int) (a4 : Bool) (a5 a6 a7 a8 a9 a10 a11 a12 a13 : Int) (b0 b1 b2 b3 : Int) (b4 : Bool) (b5 b6 b7 b8 b9 b10 b11 b12 b13 : Int) : ∃ r, Ev (fun k => spec_FixedBefore.f k a0 a1 a2 a3 a4 a5 a6 a7 a8 a9 a10 a11 a12 a13 b0 b1 b2 b3 b4 b5 b6 b7 b8 b9 b10 b11 b12 b13) r := by
  have h : ∃ r, spec_FixedBefore.f 1 a0 a1 a2 a3 a4 a5 a6 a7 a8 a9 a10 a11 a12 a13 b0 b1 b2 b3 b4 b5 b6 b7 b8 b9 b10 b11 b12 b13 = some r := by
    unfold spec_FixedBefore.f
    simp only [sisFixed_eq, spec_FixedBefore.j0, Option.bind_some]
    repeat' split
    all_goals exact ⟨_, rfl⟩
  obtain ⟨r, h⟩ := h
  exact ⟨r, Ev.of (fun k => spec_FixedBefore.mono a0 a1 a2 a3 a4 a5 a6 a7 a8 a9 a10 a11 a12 a13 b0 b1 b2 b3 b4 b5 b6 b7 b8 b9 b10 b11 b12 b13 k) h⟩
theorem fairBefore_eq (a0 a1 a2 a3 : Int) (a4 : Bool) (a5 a6 a7 a8 a9 a10 a11 a12 a13 : Int) (b0 b1 b2 b3 : Int) (b4 : Bool) (b5 b6 b7 b8 b9 b10 b11 b12 b13 : Int) : impl_FairBefore.f a0 a1 a2 a3 a4 a5 a6 a7 a8 a9 a10 a11 a12 a13 b0 b1 b2 b3 b4 b5 b6 b7 b8 b9 b10 b11 b12 b13 = spec_FairBefore.f a0 a1 a2 a3 a4 a5 a6 a7 a8 a9 a10 a11 a12 a13 b0 b1 b2 b3 b4 b5 b6 b7 b8 b9 b10 b11 b12 b13 := by
  unfold impl_FairBefore.f spec_FairBefore.f
  simp only [isFair_eq, sisFair_eq]
theorem sfairBefore_some (a0 a1 a2 a3 : Int) (a4 : Bool) (a5 a6 a7 a8 a9 a10 a11 a12 a13 : Int) (b0 b1 b2 b3 : Int) (b4 : Bool) (b5 b6 b7 b8 b9 b10 b11 b12 b13 : Int) : ∃ r, spec_FairBefore.f a0 a1 a2 a3 a4 a5 a6 a7 a8 a9 a10 a11 a12 a13 b0 b1 b2 b3 b4 b5 b6 b7 b8 b9 b10 b11 b12 b13 = some r := by
  unfold spec_FairBefore.f
  simp only [sisFair_eq, Option.bind_some]
  repeat' split
  all_goals exact ⟨_, rfl⟩
theorem dueB (a0 a1 a2 a3 : Int) (a4 : Bool) (a5 a6 a7 a8 a9 a10 a11 a12 a13 : Int) (b0 b1 b2 b3 : Int) (b4 : Bool) (b5 b6 b7 b8 b9 b10 b11 b12 b13 : Int) : spec_DueBefore.f a0 a1 a2 a3 a4 a5 a6 a7 a8 a9 a10 a11 a12 a13 b0 b1 b2 b3 b4 b5 b6 b7 b8 b9 b10 b11 b12 b13 = some (decide (dueLt ⟨a0, a1, a2, a3, a4, a5, a6, a7, a8, a9, a10, a11, a12, a13⟩ ⟨b0, b1, b2, b3, b4, b5, b6, b7, b8, b9, b10, b11, b12, b13⟩)) := by
  unfold spec_DueBefore.f dueLt Tk.ok
  simp only [sisDue_eq, Option.bind_some, decide_eq_true_eq, dFalse, dTrue, dIte]
  refine congrArg some (decide_eq_decide.2 ?_)
  generalize (TaskP a0 a1 a2 a3 a5 a6 a7 a8 a9 a10 a11 a12 a13 ∧ a1 = 1) = P
  generalize (TaskP b0 b1 b2 b3 b5 b6 b7 b8 b9 b10 b11 b12 b13 ∧ b1 = 1) = Q
  by_cases h : P <;> by_cases g : Q <;> simp only [h, g, true_and, false_and, and_false, and_true, not_true_eq_false, not_false_eq_true, or_false]
  omega
theorem fairB (a0 a1 a2 a3 : Int) (a4 : Bool) (a5 a6 a7 a8 a9 a10 a11 a12 a13 : Int) (b0 b1 b2 b3 : Int) (b4 : Bool) (b5 b6 b7 b8 b9 b10 b11 b12 b13 : Int) : spec_FairBefore.f a0 a1 a2 a3 a4 a5 a6 a7 a8 a9 a10 a11 a12 a13 b0 b1 b2 b3 b4 b5 b6 b7 b8 b9 b10 b11 b12 b13 = some (decide (fairLt ⟨a0, a1, a2, a3, a4, a5, a6, a7, a8, a9, a10, a11, a12, a13⟩ ⟨b0, b1, b2, b3, b4, b5, b6, b7, b8, b9, b10, b11, b12, b13⟩)) := by
  unfold spec_FairBefore.f fairLt Tk.ok
  simp only [sisFair_eq, Option.bind_some, decide_eq_true_eq, dFalse, dTrue, dIte]
  refine congrArg some (decide_eq_decide.2 ?_)
  generalize (TaskP a0 a1 a2 a3 a5 a6 a7 a8 a9 a10 a11 a12 a13 ∧ a1 = 3) = P
  generalize (TaskP b0 b1 b2 b3 b5 b6 b7 b8 b9 b10 b11 b12 b13 ∧ b1 = 3) = Q
  by_cases h : P <;> by_cases g : Q <;> simp only [h, g, true_and, false_and, and_false, and_true, not_true_eq_false, not_false_eq_true, or_false]
  omega
theorem fixB (k : Nat) (a0 a1 a2 a3 : Int) (a4 : Bool) (a5 a6 a7 a8 a9 a10 a11 a12 a13 : Int) (b0 b1 b2 b3 : Int) (b4 : Bool) (b5 b6 b7 b8 b9 b10 b11 b12 b13 : Int) : spec_FixedBefore.f (k + 1) a0 a1 a2 a3 a4 a5 a6 a7 a8 a9 a10 a11 a12 a13 b0 b1 b2 b3 b4 b5 b6 b7 b8 b9 b10 b11 b12 b13 = some (decide (fixLt ⟨a0, a1, a2, a3, a4, a5, a6, a7, a8, a9, a10, a11, a12, a13⟩ ⟨b0, b1, b2, b3, b4, b5, b6, b7, b8, b9, b10, b11, b12, b13⟩)) := by
  unfold spec_FixedBefore.f
  simp only [sisFixed_eq, spec_FixedBefore.j0, Option.bind_some, decide_eq_true_eq, dNot]
  by_cases h : TaskP a0 a1 a2 a3 a5 a6 a7 a8 a9 a10 a11 a12 a13 ∧ a1 = 2 <;> by_cases g : TaskP b0 b1 b2 b3 b5 b6 b7 b8 b9 b10 b11 b12 b13 ∧ b1 = 2
  · rw [if_pos h, if_neg (fun f => f g)]
    simp only [dFalse, dTrue, dIte]
    refine congrArg some (decide_eq_decide.2 ⟨fun z => ⟨h, g, show a9 > b9 ∨ a9 = b9 ∧ (a11 < b11 ∨ a11 = b11 ∧ a0 < b0) from ?_⟩, fun z => ?_⟩)
    · omega
    · have z : a9 > b9 ∨ a9 = b9 ∧ (a11 < b11 ∨ a11 = b11 ∧ a0 < b0) := z.2.2
      omega
  · rw [if_pos h, if_pos g]
    exact congrArg some (decide_eq_false fun z => g z.2.1).symm
  · rw [if_neg h, if_pos trivial]
    exact congrArg some (decide_eq_false fun z => h z.1).symm
  · rw [if_neg h, if_pos trivial]
    exact congrArg some (decide_eq_false fun z => h z.1).symm
theorem befB (k : Nat) (a0 a1 a2 a3 : Int) (a4 : Bool) (a5 a6 a7 a8 a9 a10 a11 a12 a13 : Int) (b0 b1 b2 b3 : Int) (b4 : Bool) (b5 b6 b7 b8 b9 b10 b11 b12 b13 : Int) : spec_Before.f (k + 2) a0 a1 a2 a3 a4 a5 a6 a7 a8 a9 a10 a11 a12 a13 b0 b1 b2 b3 b4 b5 b6 b7 b8 b9 b10 b11 b12 b13 = some (decide (before ⟨a0, a1, a2, a3, a4, a5, a6, a7, a8, a9, a10, a11, a12, a13⟩ ⟨b0, b1, b2, b3, b4, b5, b6, b7, b8, b9, b10, b11, b12, b13⟩)) := by
  unfold spec_Before.f
  simp only [spec_TaskOk.f, spec_Before.j0, dueB, fixB, fairB, Option.bind_some, decide_eq_true_eq, dNot]
  by_cases h : TaskP a0 a1 a2 a3 a5 a6 a7 a8 a9 a10 a11 a12 a13 <;> by_cases g : TaskP b0 b1 b2 b3 b5 b6 b7 b8 b9 b10 b11 b12 b13
  · rw [if_pos h, if_neg (fun f => f g)]
    simp only [dTrue, dIte]
    refine congrArg some (decide_eq_decide.2 ?_)
    have hh : Tk.ok ⟨a0, a1, a2, a3, a4, a5, a6, a7, a8, a9, a10, a11, a12, a13⟩ := h
    have gg : Tk.ok ⟨b0, b1, b2, b3, b4, b5, b6, b7, b8, b9, b10, b11, b12, b13⟩ := g
    simp only [before, dueLt, fixLt, fairLt, hh, gg, true_and, and_true]
    by_cases e : a1 = b1
    · subst e
      simp only [true_and, not_true_eq_false, not_false_eq_true, false_and, or_false, Int.lt_irrefl, false_or]
      omega
    · omega
  · rw [if_pos h, if_pos g]
    exact congrArg some (decide_eq_false fun z => g z.2.1).symm
  · rw [if_neg h, if_pos trivial]
    exact congrArg some (decide_eq_false fun z => h z.1).symm
  · rw [if_neg h, if_pos trivial]
    exact congrArg some (decide_eq_false fun z => h z.1).symm
theorem before_eq (k : Nat) (a0 a1 a2 a3 : Int) (a4 : Bool) (a5 a6 a7 a8 a9 a10 a11 a12 a13 : Int) (b0 b1 b2 b3 : Int) (b4 : Bool) (b5 b6 b7 b8 b9 b10 b11 b12 b13 : Int) : impl_Before.f (k + 2) a0 a1 a2 a3 a4 a5 a6 a7 a8 a9 a10 a11 a12 a13 b0 b1 b2 b3 b4 b5 b6 b7 b8 b9 b10 b11 b12 b13 = some (decide (before ⟨a0, a1, a2, a3, a4, a5, a6, a7, a8, a9, a10, a11, a12, a13⟩ ⟨b0, b1, b2, b3, b4, b5, b6, b7, b8, b9, b10, b11, b12, b13⟩)) := by
  unfold impl_Before.f
  simp only [impl_TaskOk.f, impl_Before.j0, dueBefore_eq, fixedBefore_eq, fairBefore_eq, dueB, fixB, fairB, Option.bind_some, decide_eq_true_eq, dNot]
  by_cases h : TaskP a0 a1 a2 a3 a5 a6 a7 a8 a9 a10 a11 a12 a13 <;> by_cases g : TaskP b0 b1 b2 b3 b5 b6 b7 b8 b9 b10 b11 b12 b13
  · rw [if_pos h, if_neg (fun f => f g)]
    simp only [dTrue, dIte]
    refine congrArg some (decide_eq_decide.2 ?_)
    have hh : Tk.ok ⟨a0, a1, a2, a3, a4, a5, a6, a7, a8, a9, a10, a11, a12, a13⟩ := h
    have gg : Tk.ok ⟨b0, b1, b2, b3, b4, b5, b6, b7, b8, b9, b10, b11, b12, b13⟩ := g
    simp only [before, dueLt, fixLt, fairLt, hh, gg, true_and, and_true]
    by_cases e : a1 = b1
    · subst e
      simp only [true_and, not_true_eq_false, not_false_eq_true, false_and, or_false, Int.lt_irrefl, false_or]
      omega
    · omega
  · rw [if_pos h, if_pos g]
    exact congrArg some (decide_eq_false fun z => g z.2.1).symm
  · rw [if_neg h, if_pos trivial]
    exact congrArg some (decide_eq_false fun z => h z.1).symm
  · rw [if_neg h, if_pos trivial]
    exact congrArg some (decide_eq_false fun z => h z.1).symm
theorem FnExactBefore : laws_FnExactBefore.Pure := by
  intro a0 a1 a2 a3 a4 a5 a6 a7 a8 a9 a10 a11 a12 a13 b0 b1 b2 b3 b4 b5 b6 b7 b8 b9 b10 b11 b12 b13 _ _
  refine Ev.rounds (r := true) ?_
  unfold laws_FnExactBefore.f
  simp only [laws_toTask.f, Option.bind_some]
  refine Ev.bind (Ev.of (fun k => spec_Before.mono a0 a1 a2 a3 a4 a5 a6 a7 a8 a9 a10 a11 a12 a13 b0 b1 b2 b3 b4 b5 b6 b7 b8 b9 b10 b11 b12 b13 k) (befB 0 a0 a1 a2 a3 a4 a5 a6 a7 a8 a9 a10 a11 a12 a13 b0 b1 b2 b3 b4 b5 b6 b7 b8 b9 b10 b11 b12 b13)) ?_
  refine Ev.bind (Ev.of (fun k => impl_Before.mono a0 a1 a2 a3 a4 a5 a6 a7 a8 a9 a10 a11 a12 a13 b0 b1 b2 b3 b4 b5 b6 b7 b8 b9 b10 b11 b12 b13 k) (before_eq 0 a0 a1 a2 a3 a4 a5 a6 a7 a8 a9 a10 a11 a12 a13 b0 b1 b2 b3 b4 b5 b6 b7 b8 b9 b10 b11 b12 b13)) ?_
  refine evEq _ (fun k => rfl) ?_
  simp

end Go.Proofs.Ytnokdjkkgcpbdaa.Pure
