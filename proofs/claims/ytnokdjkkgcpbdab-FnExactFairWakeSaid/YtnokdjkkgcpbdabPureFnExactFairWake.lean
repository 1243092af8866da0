/- The pure statement of FnExactFairWake: at all arguments the program's FairWake and the reference's agree, as plain functions over numbers and lists. Conditions: those of the statement (numbers of 64 bits, lists that lie in memory). -/
import Derived.Test.YtnokdjkkgcpbdabPrint14
set_option linter.unusedVariables false
set_option linter.unusedSimpArgs false
namespace Go.Proofs.Ytnokdjkkgcpbdab.Pure
open Go.RowKit Go.Proofs.Ytnokdjkkgcpbdab.Print Go.Proofs.YtnokdjkkgcpbdabW.PrintWords Go.Proofs.YtnokdjkkgcpbdabW.PrintLast Go.Proofs.YtnokdjkkgcpbdabW.PrintMore Go.Proofs.Ytnokdjkkgcpbdab.Base

theorem isFair_eq (a0 a1 a2 a3 : Int) (a4 : Bool) (a5 a6 a7 a8 a9 a10 a11 a12 a13 : Int) : impl_isFair.f a0 a1 a2 a3 a4 a5 a6 a7 a8 a9 a10 a11 a12 a13 = some (decide (TaskP a0 a1 a2 a3 a5 a6 a7 a8 a9 a10 a11 a12 a13 ∧ a1 = 3)) := by
  unfold impl_isFair.f impl_TaskOk.f
  by_cases h : a1 = 3
  · rw [if_pos h]
    simp [h]
  · rw [if_neg h]
    simp [h]
theorem sisFair_eq (a0 a1 a2 a3 : Int) (a4 : Bool) (a5 a6 a7 a8 a9 a10 a11 a12 a13 : Int) : spec_l6Fair.f a0 a1 a2 a3 a4 a5 a6 a7 a8 a9 a10 a11 a12 a13 = some (decide (TaskP a0 a1 a2 a3 a5 a6 a7 a8 a9 a10 a11 a12 a13 ∧ a1 = 3)) := by
  unfold spec_l6Fair.f spec_TaskOk.f
  simp only [Option.bind_some, decide_eq_true_eq]
  by_cases h : TaskP a0 a1 a2 a3 a5 a6 a7 a8 a9 a10 a11 a12 a13
  · simp [h, dBeq]
  · simp [h]
theorem in_eq (a b c : Int) : impl_in.f a b c = some (decide (b ≤ a ∧ a ≤ c)) := by
  unfold impl_in.f
  by_cases h : a ≥ b
  · rw [if_pos h]; simp [show b ≤ a from h]
  · rw [if_neg h]; simp; omega
theorem sin_eq (a b c : Int) : spec_l1In.f a b c = some (decide (b ≤ a ∧ a ≤ c)) := by
  unfold spec_l1In.f
  by_cases h : a ≥ b
  · rw [if_pos h]; simp [show b ≤ a from h]
  · rw [if_neg h]; simp; omega
theorem smax_eq (a b : Int) : spec_l1Max.f a b = some (if a > b then a else b) := by
  unfold spec_l1Max.f
  split <;> rfl
theorem fairWake_eq (a0 a1 a2 a3 : Int) (a4 : Bool) (a5 a6 a7 a8 a9 a10 a11 a12 a13 : Int) (floor : Int) : impl_FairWake.f a0 a1 a2 a3 a4 a5 a6 a7 a8 a9 a10 a11 a12 a13 floor = spec_FairWake.f a0 a1 a2 a3 a4 a5 a6 a7 a8 a9 a10 a11 a12 a13 floor := by
  unfold impl_FairWake.f spec_FairWake.f impl_withV.f spec_l6To.f
  simp only [isFair_eq, sisFair_eq, smax_eq, in_eq, sin_eq, Option.bind_some, decide_eq_true_eq]
  by_cases h : TaskP a0 a1 a2 a3 a5 a6 a7 a8 a9 a10 a11 a12 a13 ∧ a1 = 3
  · rw [if_pos h, if_pos h]
    have hv : 0 ≤ a13 ∧ a13 ≤ 100000000 := by have := h.1; unfold TaskP at this; omega
    by_cases g : floor ≤ a13
    · rw [if_pos g]
      by_cases e : a13 > floor
      · simp only [if_pos e, if_pos hv, Option.bind_some]
      · have e2 : floor = a13 := by omega
        subst e2
        simp only [gt_iff_lt, Int.lt_irrefl, if_false, if_pos hv, Option.bind_some]
    · rw [if_neg g, if_neg (by omega : ¬ a13 > floor)]
  · rw [if_neg h, if_neg h]
theorem sfairWake_some (a0 a1 a2 a3 : Int) (a4 : Bool) (a5 a6 a7 a8 a9 a10 a11 a12 a13 : Int) (floor : Int) : ∃ r, spec_FairWake.f a0 a1 a2 a3 a4 a5 a6 a7 a8 a9 a10 a11 a12 a13 floor = some r := by
  unfold spec_FairWake.f spec_l6To.f
  simp only [sisFair_eq, smax_eq, sin_eq, Option.bind_some]
  repeat' split
  all_goals exact ⟨_, rfl⟩
theorem eqTask_refl (a0 a1 a2 a3 : Int) (a4 : Bool) (a5 a6 a7 a8 a9 a10 a11 a12 a13 : Int) : laws_eqTask.f a0 a1 a2 a3 a4 a5 a6 a7 a8 a9 a10 a11 a12 a13 a0 a1 a2 a3 a4 a5 a6 a7 a8 a9 a10 a11 a12 a13 = some true := by
  unfold laws_eqTask.f
  simp
theorem FnExactFairWake : laws_FnExactFairWake.Pure := by
  intro a0 a1 a2 a3 a4 a5 a6 a7 a8 a9 a10 a11 a12 a13 floor _ _
  unfold laws_FnExactFairWake.f laws_toTask.f
  obtain ⟨r, hr⟩ := sfairWake_some a0 a1 a2 a3 a4 a5 a6 a7 a8 a9 a10 a11 a12 a13 floor
  simp only [Option.bind_some, fairWake_eq, hr]
  simp [eqTask_refl]

end Go.Proofs.Ytnokdjkkgcpbdab.Pure
