/- The pure statement of FnExactDueBefore: at all arguments the program's DueBefore and the reference's agree, as plain functions over numbers and lists. Conditions: those of the statement (numbers of 64 bits, lists that lie in memory). -/
import Derived.Test.YtbcpjbgcmkifiaaPrint19
set_option linter.unusedVariables false
set_option linter.unusedSimpArgs false
namespace Go.Proofs.Ytbcpjbgcmkifiaa.Pure
open Go.RowKit Go.Proofs.Ytbcpjbgcmkifiaa.Print Go.Proofs.YtbcpjbgcmkifiaaW.PrintWords Go.Proofs.YtbcpjbgcmkifiaaW.PrintLast Go.Proofs.YtbcpjbgcmkifiaaW.PrintMore Go.Proofs.Ytbcpjbgcmkifiaa.Base

theorem isDue_eq (a0 a1 a2 a3 : Int) (a4 : Bool) (a5 a6 a7 a8 a9 a10 a11 a12 a13 : Int) : impl_isDue.f a0 a1 a2 a3 a4 a5 a6 a7 a8 a9 a10 a11 a12 a13 = some (decide (TaskP a0 a1 a2 a3 a5 a6 a7 a8 a9 a10 a11 a12 a13 ∧ a1 = 1)) := by
  unfold impl_isDue.f impl_TaskOk.f
  by_cases h : a1 = 1
  · rw [if_pos h]
    simp [h]
  · rw [if_neg h]
    simp [h]
theorem sisDue_eq (a0 a1 a2 a3 : Int) (a4 : Bool) (a5 a6 a7 a8 a9 a10 a11 a12 a13 : Int) : spec_l4Due.f a0 a1 a2 a3 a4 a5 a6 a7 a8 a9 a10 a11 a12 a13 = some (decide (TaskP a0 a1 a2 a3 a5 a6 a7 a8 a9 a10 a11 a12 a13 ∧ a1 = 1)) := by
  unfold spec_l4Due.f spec_TaskOk.f
  simp only [Option.bind_some, decide_eq_true_eq]
  by_cases h : TaskP a0 a1 a2 a3 a5 a6 a7 a8 a9 a10 a11 a12 a13
  · simp [h, dBeq]
  · simp [h]
theorem dueBefore_eq (a0 a1 a2 a3 : Int) (a4 : Bool) (a5 a6 a7 a8 a9 a10 a11 a12 a13 : Int) (b0 b1 b2 b3 : Int) (b4 : Bool) (b5 b6 b7 b8 b9 b10 b11 b12 b13 : Int) : impl_DueBefore.f a0 a1 a2 a3 a4 a5 a6 a7 a8 a9 a10 a11 a12 a13 b0 b1 b2 b3 b4 b5 b6 b7 b8 b9 b10 b11 b12 b13 = spec_DueBefore.f a0 a1 a2 a3 a4 a5 a6 a7 a8 a9 a10 a11 a12 a13 b0 b1 b2 b3 b4 b5 b6 b7 b8 b9 b10 b11 b12 b13 := by
  unfold impl_DueBefore.f spec_DueBefore.f
  simp only [isDue_eq, sisDue_eq]
theorem sdueBefore_some (a0 a1 a2 a3 : Int) (a4 : Bool) (a5 a6 a7 a8 a9 a10 a11 a12 a13 : Int) (b0 b1 b2 b3 : Int) (b4 : Bool) (b5 b6 b7 b8 b9 b10 b11 b12 b13 : Int) : ∃ r, spec_DueBefore.f a0 a1 a2 a3 a4 a5 a6 a7 a8 a9 a10 a11 a12 a13 b0 b1 b2 b3 b4 b5 b6 b7 b8 b9 b10 b11 b12 b13 = some r := by
  unfold spec_DueBefore.f
  simp only [sisDue_eq, Option.bind_some]
  repeat' split
  all_goals exact ⟨_, rfl⟩
theorem FnExactDueBefore : laws_FnExactDueBefore.Pure := by
  intro a0 a1 a2 a3 a4 a5 a6 a7 a8 a9 a10 a11 a12 a13 b0 b1 b2 b3 b4 b5 b6 b7 b8 b9 b10 b11 b12 b13 _ _
  unfold laws_FnExactDueBefore.f laws_toTask.f
  obtain ⟨r, hr⟩ := sdueBefore_some a0 a1 a2 a3 a4 a5 a6 a7 a8 a9 a10 a11 a12 a13 b0 b1 b2 b3 b4 b5 b6 b7 b8 b9 b10 b11 b12 b13
  simp only [Option.bind_some, dueBefore_eq, hr, bne_self_eq_false, Bool.false_eq_true, if_false]

end Go.Proofs.Ytbcpjbgcmkifiaa.Pure
