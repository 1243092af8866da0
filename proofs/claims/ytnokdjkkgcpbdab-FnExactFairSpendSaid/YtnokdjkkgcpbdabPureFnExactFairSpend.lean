/- The pure statement of FnExactFairSpend: at all arguments the program's FairSpend and the reference's agree, as plain functions over numbers and lists. Conditions: those of the statement (numbers of 64 bits, lists that lie in memory). -/
import Derived.Test.YtnokdjkkgcpbdabPrint33
set_option linter.unusedVariables false
set_option linter.unusedSimpArgs false
namespace Go.Proofs.Ytnokdjkkgcpbdab.Pure
open Go.RowKit Go.Proofs.Ytnokdjkkgcpbdab.Print Go.Proofs.YtnokdjkkgcpbdabW.PrintWords Go.Proofs.YtnokdjkkgcpbdabW.PrintLast Go.Proofs.YtnokdjkkgcpbdabW.PrintMore Go.Proofs.Ytnokdjkkgcpbdab.Base

theorem isFair_eq (a0 a1 a2 a3 : Int) (a4 : Bool) (a5 a6 a7 a8 a9 a10 a11 a12 a13 : Int) : impl_isFair.f a0 a1 a2 a3 a4 a5 a6 a7 a8 a9 a10 a11 a12 a13 = some (decide (TaskP a0 a1 a2 a3 a5 a6 a7 a8 a9 a10 a11 a12 a13 ∧ a1 = 3)) := by
  unfold impl_isFair.f impl_TaskOk.f
  by_cases h : a1 = 3
  · rw [if_pos h]
    simp [h]
  · rw [if_neg h]
    simp [h]
theorem sisFair_eq (a0 a1 a2 a3 : Int) (a4 : Bool) (a5 a6 a7 a8 a9 a10 a11 a12 a13 : Int) : spec_l6Fair.f a0 a1 a2 a3 a4 a5 a6 a7 a8 a9 a10 a11 a12 a13 = some (decide (TaskP a0 a1 a2 a3 a5 a6 a7 a8 a9 a10 a11 a12 a13 ∧ a1 = 3)) := by
  unfold spec_l6Fair.f spec_TaskOk.f
  simp only [Option.bind_some, decide_eq_true_eq]
  by_cases h : TaskP a0 a1 a2 a3 a5 a6 a7 a8 a9 a10 a11 a12 a13
  · simp [h, dBeq]
  · simp [h]
theorem in_eq (a b c : Int) : impl_in.f a b c = some (decide (b ≤ a ∧ a ≤ c)) := by
  unfold impl_in.f
  by_cases h : a ≥ b
  · rw [if_pos h]; simp [show b ≤ a from h]
  · rw [if_neg h]; simp; omega
theorem sin_eq (a b c : Int) : spec_l1In.f a b c = some (decide (b ≤ a ∧ a ≤ c)) := by
  unfold spec_l1In.f
  by_cases h : a ≥ b
  · rw [if_pos h]; simp [show b ≤ a from h]
  · rw [if_neg h]; simp; omega
theorem nice_eq (a : Int) : impl_NiceOk.f a = some (decide (-4 ≤ a ∧ a ≤ 4)) := by
  unfold impl_NiceOk.f
  rw [in_eq]
  rfl
theorem snice_eq (a : Int) : spec_NiceOk.f a = some (decide (-4 ≤ a ∧ a ≤ 4)) := by
  unfold spec_NiceOk.f
  rw [sin_eq]
  rfl
def weightOf (a : Int) : Int := if a = -4 then 24 else if a = -3 then 16 else if a = -2 then 12 else if a = -1 then 8 else if a = 0 then 6 else if a = 1 then 4 else if a = 2 then 3 else if a = 3 then 2 else if a = 4 then 1 else 0
theorem nine {P : Int → Prop} (h : P (-4)) (h1 : P (-3)) (h2 : P (-2)) (h3 : P (-1)) (h4 : P 0) (h5 : P 1) (h6 : P 2) (h7 : P 3) (h8 : P 4) (a : Int) (h0 : -4 ≤ a ∧ a ≤ 4) : P a := by
  obtain rfl | rfl | rfl | rfl | rfl | rfl | rfl | rfl | rfl : a = -4 ∨ a = -3 ∨ a = -2 ∨ a = -1 ∨ a = 0 ∨ a = 1 ∨ a = 2 ∨ a = 3 ∨ a = 4 := by omega
  all_goals assumption
theorem weight_none (a : Int) (h : ¬ (-4 ≤ a ∧ a ≤ 4)) : weightOf a = 0 := by
  unfold weightOf
  iterate 9 rw [if_neg (by omega)]
theorem weight_eq (a : Int) : impl_WeightOf.f a = some (weightOf a) := by
  by_cases h : -4 ≤ a ∧ a ≤ 4
  · refine nine (P := fun a => impl_WeightOf.f a = some (weightOf a)) ?_ ?_ ?_ ?_ ?_ ?_ ?_ ?_ ?_ a h <;> decide +kernel
  · unfold impl_WeightOf.f
    simp only [nice_eq, h, Option.bind_some, decide_false, Bool.false_eq_true, if_false, weight_none a h]
theorem sweight_eq (a : Int) : spec_WeightOf.f a = some (weightOf a) := by
  by_cases h : -4 ≤ a ∧ a ≤ 4
  · refine nine (P := fun a => spec_WeightOf.f a = some (weightOf a)) ?_ ?_ ?_ ?_ ?_ ?_ ?_ ?_ ?_ a h <;> decide +kernel
  · unfold spec_WeightOf.f
    simp only [snice_eq, h, Option.bind_some, decide_false, Bool.false_eq_true, if_false, weight_none a h]
def stepOf (a : Int) : Int := if a = -4 then 2 else if a = -3 then 3 else if a = -2 then 4 else if a = -1 then 6 else if a = 0 then 8 else if a = 1 then 12 else if a = 2 then 16 else if a = 3 then 24 else if a = 4 then 48 else 0
theorem step_none (a : Int) (h : ¬ (-4 ≤ a ∧ a ≤ 4)) : stepOf a = 0 := by
  unfold stepOf
  iterate 9 rw [if_neg (by omega)]
theorem step_eq (a : Int) : impl_StepOf.f a = some (stepOf a) := by
  by_cases h : -4 ≤ a ∧ a ≤ 4
  · refine nine (P := fun a => impl_StepOf.f a = some (stepOf a)) ?_ ?_ ?_ ?_ ?_ ?_ ?_ ?_ ?_ a h <;> decide +kernel
  · unfold impl_StepOf.f
    simp only [nice_eq, h, Option.bind_some, decide_false, Bool.false_eq_true, if_false, step_none a h]
theorem sstep_eq (a : Int) : spec_StepOf.f a = some (stepOf a) := by
  by_cases h : -4 ≤ a ∧ a ≤ 4
  · refine nine (P := fun a => spec_StepOf.f a = some (stepOf a)) ?_ ?_ ?_ ?_ ?_ ?_ ?_ ?_ ?_ a h <;> decide +kernel
  · unfold spec_StepOf.f
    simp only [snice_eq, h, Option.bind_some, decide_false, Bool.false_eq_true, if_false, step_none a h]
theorem fairSpend_eq (a0 a1 a2 a3 : Int) (a4 : Bool) (a5 a6 a7 a8 a9 a10 a11 a12 a13 : Int) : impl_FairSpend.f a0 a1 a2 a3 a4 a5 a6 a7 a8 a9 a10 a11 a12 a13 = spec_FairSpend.f a0 a1 a2 a3 a4 a5 a6 a7 a8 a9 a10 a11 a12 a13 := by
  unfold impl_FairSpend.f spec_FairSpend.f impl_withV.f spec_l6To.f
  simp only [isFair_eq, sisFair_eq, step_eq, sstep_eq, in_eq, sin_eq, Option.bind_some]
theorem sfairSpend_some (a0 a1 a2 a3 : Int) (a4 : Bool) (a5 a6 a7 a8 a9 a10 a11 a12 a13 : Int) : ∃ r, spec_FairSpend.f a0 a1 a2 a3 a4 a5 a6 a7 a8 a9 a10 a11 a12 a13 = some r := by
  unfold spec_FairSpend.f spec_l6To.f
  simp only [sisFair_eq, sstep_eq, sin_eq, Option.bind_some]
  repeat' split
  all_goals exact ⟨_, rfl⟩
theorem eqTask_refl (a0 a1 a2 a3 : Int) (a4 : Bool) (a5 a6 a7 a8 a9 a10 a11 a12 a13 : Int) : laws_eqTask.f a0 a1 a2 a3 a4 a5 a6 a7 a8 a9 a10 a11 a12 a13 a0 a1 a2 a3 a4 a5 a6 a7 a8 a9 a10 a11 a12 a13 = some true := by
  unfold laws_eqTask.f
  simp
theorem FnExactFairSpend : laws_FnExactFairSpend.Pure := by
  intro a0 a1 a2 a3 a4 a5 a6 a7 a8 a9 a10 a11 a12 a13 _
  unfold laws_FnExactFairSpend.f laws_toTask.f
  obtain ⟨r, hr⟩ := sfairSpend_some a0 a1 a2 a3 a4 a5 a6 a7 a8 a9 a10 a11 a12 a13
  simp only [Option.bind_some, fairSpend_eq, hr]
  simp [eqTask_refl]

end Go.Proofs.Ytnokdjkkgcpbdab.Pure
