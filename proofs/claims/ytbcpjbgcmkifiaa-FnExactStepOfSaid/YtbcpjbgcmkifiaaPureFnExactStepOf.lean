/- The pure statement of FnExactStepOf: at all arguments the program's StepOf and the reference's agree, as plain functions over numbers and lists. Conditions: those of the statement (numbers of 64 bits, lists that lie in memory). -/
import Derived.Test.YtbcpjbgcmkifiaaPrint5
set_option linter.unusedVariables false
set_option linter.unusedSimpArgs false
namespace Go.Proofs.Ytbcpjbgcmkifiaa.Pure
open Go.RowKit Go.Proofs.Ytbcpjbgcmkifiaa.Print Go.Proofs.YtbcpjbgcmkifiaaW.PrintWords Go.Proofs.YtbcpjbgcmkifiaaW.PrintLast Go.Proofs.YtbcpjbgcmkifiaaW.PrintMore Go.Proofs.Ytbcpjbgcmkifiaa.Base

theorem in_eq (a b c : Int) : impl_in.f a b c = some (decide (b ≤ a ∧ a ≤ c)) := by
  unfold impl_in.f
  by_cases h : a ≥ b
  · rw [if_pos h]; simp [show b ≤ a from h]
  · rw [if_neg h]; simp; omega
theorem sin_eq (a b c : Int) : spec_l1In.f a b c = some (decide (b ≤ a ∧ a ≤ c)) := by
  unfold spec_l1In.f
  by_cases h : a ≥ b
  · rw [if_pos h]; simp [show b ≤ a from h]
  · rw [if_neg h]; simp; omega
theorem nice_eq (a : Int) : impl_NiceOk.f a = some (decide (-4 ≤ a ∧ a ≤ 4)) := by
  unfold impl_NiceOk.f
  rw [in_eq]
  rfl
theorem snice_eq (a : Int) : spec_NiceOk.f a = some (decide (-4 ≤ a ∧ a ≤ 4)) := by
  unfold spec_NiceOk.f
  rw [sin_eq]
  rfl
def weightOf (a : Int) : Int := if a = -4 then 24 else if a = -3 then 16 else if a = -2 then 12 else if a = -1 then 8 else if a = 0 then 6 else if a = 1 then 4 else if a = 2 then 3 else if a = 3 then 2 else if a = 4 then 1 else 0
theorem nine {P : Int → Prop} (h : P (-4)) (h1 : P (-3)) (h2 : P (-2)) (h3 : P (-1)) (h4 : P 0) (h5 : P 1) (h6 : P 2) (h7 : P 3) (h8 : P 4) (a : Int) (h0 : -4 ≤ a ∧ a ≤ 4) : P a := by
  obtain rfl | rfl | rfl | rfl | rfl | rfl | rfl | rfl | rfl : a = -4 ∨ a = -3 ∨ a = -2 ∨ a = -1 ∨ a = 0 ∨ a = 1 ∨ a = 2 ∨ a = 3 ∨ a = 4 := by omega
  all_goals assumption
theorem weight_none (a : Int) (h : ¬ (-4 ≤ a ∧ a ≤ 4)) : weightOf a = 0 := by
  unfold weightOf
  iterate 9 rw [if_neg (by omega)]
theorem weight_eq (a : Int) : impl_WeightOf.f a = some (weightOf a) := by
  by_cases h : -4 ≤ a ∧ a ≤ 4
  · refine nine (P := fun a => impl_WeightOf.f a = some (weightOf a)) ?_ ?_ ?_ ?_ ?_ ?_ ?_ ?_ ?_ a h <;> decide +kernel
  · unfold impl_WeightOf.f
    simp only [nice_eq, h, Option.bind_some, decide_false, Bool.false_eq_true, if_false, weight_none a h]
theorem sweight_eq (a : Int) : spec_WeightOf.f a = some (weightOf a) := by
  by_cases h : -4 ≤ a ∧ a ≤ 4
  · refine nine (P := fun a => spec_WeightOf.f a = some (weightOf a)) ?_ ?_ ?_ ?_ ?_ ?_ ?_ ?_ ?_ a h <;> decide +kernel
  · unfold spec_WeightOf.f
    simp only [snice_eq, h, Option.bind_some, decide_false, Bool.false_eq_true, if_false, weight_none a h]
def stepOf (a : Int) : Int := if a = -4 then 2 else if a = -3 then 3 else if a = -2 then 4 else if a = -1 then 6 else if a = 0 then 8 else if a = 1 then 12 else if a = 2 then 16 else if a = 3 then 24 else if a = 4 then 48 else 0
theorem step_none (a : Int) (h : ¬ (-4 ≤ a ∧ a ≤ 4)) : stepOf a = 0 := by
  unfold stepOf
  iterate 9 rw [if_neg (by omega)]
theorem step_eq (a : Int) : impl_StepOf.f a = some (stepOf a) := by
  by_cases h : -4 ≤ a ∧ a ≤ 4
  · refine nine (P := fun a => impl_StepOf.f a = some (stepOf a)) ?_ ?_ ?_ ?_ ?_ ?_ ?_ ?_ ?_ a h <;> decide +kernel
  · unfold impl_StepOf.f
    simp only [nice_eq, h, Option.bind_some, decide_false, Bool.false_eq_true, if_false, step_none a h]
theorem sstep_eq (a : Int) : spec_StepOf.f a = some (stepOf a) := by
  by_cases h : -4 ≤ a ∧ a ≤ 4
  · refine nine (P := fun a => spec_StepOf.f a = some (stepOf a)) ?_ ?_ ?_ ?_ ?_ ?_ ?_ ?_ ?_ a h <;> decide +kernel
  · unfold spec_StepOf.f
    simp only [snice_eq, h, Option.bind_some, decide_false, Bool.false_eq_true, if_false, step_none a h]
theorem FnExactStepOf : laws_FnExactStepOf.Pure := by
  intro a _
  unfold laws_FnExactStepOf.f
  simp only [step_eq, sstep_eq, Option.bind_some, if_true]

end Go.Proofs.Ytbcpjbgcmkifiaa.Pure
