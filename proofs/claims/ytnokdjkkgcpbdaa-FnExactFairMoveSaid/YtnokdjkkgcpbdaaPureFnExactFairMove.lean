/- The pure statement of FnExactFairMove: at all arguments the program's FairMove and the reference's agree, as plain functions over numbers and lists. Conditions: those of the statement (numbers of 64 bits, lists that lie in memory). -/
import Derived.Test.YtnokdjkkgcpbdaaPrint51
set_option linter.unusedVariables false
set_option linter.unusedSimpArgs false
namespace Go.Proofs.Ytnokdjkkgcpbdaa.Pure
open Go.RowKit Go.Proofs.Ytnokdjkkgcpbdaa.Print Go.Proofs.YtnokdjkkgcpbdaaW.PrintWords Go.Proofs.YtnokdjkkgcpbdaaW.PrintLast Go.Proofs.YtnokdjkkgcpbdaaW.PrintMore Go.Proofs.Ytnokdjkkgcpbdaa.Base

theorem isFair_eq (a0 a1 a2 a3 : Int) (a4 : Bool) (a5 a6 a7 a8 a9 a10 a11 a12 a13 : Int) : impl_isFair.f a0 a1 a2 a3 a4 a5 a6 a7 a8 a9 a10 a11 a12 a13 = some (decide (TaskP a0 a1 a2 a3 a5 a6 a7 a8 a9 a10 a11 a12 a13 ∧ a1 = 3)) := by
  unfold impl_isFair.f impl_TaskOk.f
  by_cases h : a1 = 3
  · rw [if_pos h]
    simp [h]
  · rw [if_neg h]
    simp [h]
theorem sisFair_eq (a0 a1 a2 a3 : Int) (a4 : Bool) (a5 a6 a7 a8 a9 a10 a11 a12 a13 : Int) : spec_l6Fair.f a0 a1 a2 a3 a4 a5 a6 a7 a8 a9 a10 a11 a12 a13 = some (decide (TaskP a0 a1 a2 a3 a5 a6 a7 a8 a9 a10 a11 a12 a13 ∧ a1 = 3)) := by
  unfold spec_l6Fair.f spec_TaskOk.f
  simp only [Option.bind_some, decide_eq_true_eq]
  by_cases h : TaskP a0 a1 a2 a3 a5 a6 a7 a8 a9 a10 a11 a12 a13
  · simp [h, dBeq]
  · simp [h]
theorem in_eq (a b c : Int) : impl_in.f a b c = some (decide (b ≤ a ∧ a ≤ c)) := by
  unfold impl_in.f
  by_cases h : a ≥ b
  · rw [if_pos h]; simp [show b ≤ a from h]
  · rw [if_neg h]; simp; omega
theorem sin_eq (a b c : Int) : spec_l1In.f a b c = some (decide (b ≤ a ∧ a ≤ c)) := by
  unfold spec_l1In.f
  by_cases h : a ≥ b
  · rw [if_pos h]; simp [show b ≤ a from h]
  · rw [if_neg h]; simp; omega
theorem sMax0 (y : Int) : spec_l1Max.f y 0 = some (mx 0 y) := by
  unfold spec_l1Max.f mx
  by_cases h : y > 0
  · rw [if_pos h, if_pos (show 0 < y from h)]
  · rw [if_neg h, if_neg (show ¬ 0 < y from h)]
theorem fairMove_eq (k : Nat) (a0 a1 a2 a3 : Int) (a4 : Bool) (a5 a6 a7 a8 a9 a10 a11 a12 a13 : Int) (cpu : Int) (fr : Int) (to_ : Int) : impl_FairMove.f k a0 a1 a2 a3 a4 a5 a6 a7 a8 a9 a10 a11 a12 a13 cpu fr to_ = spec_FairMove.f k a0 a1 a2 a3 a4 a5 a6 a7 a8 a9 a10 a11 a12 a13 cpu fr to_ := by
  unfold impl_FairMove.f spec_FairMove.f
  simp only [isFair_eq, sisFair_eq, in_eq, sin_eq, sMax0, Option.bind_some]
  cases k <;> simp only [impl_FairMove.j0, spec_FairMove.j0, in_eq, sin_eq, sMax0, Option.bind_some]
theorem sfairMove_ev (a0 a1 a2 a3 : Int) (a4 : Bool) (a5 a6 a7 a8 a9 a10 a11 a12 a13 : Int) (cpu : Int) (fr : Int) (to_ : Int) : ∃ r, Ev (fun k => spec_FairMove.f k a0 a1 a2 a3 a4 a5 a6 a7 a8 a9 a10 a11 a12 a13 cpu fr to_) r := by
  have h : ∃ r, spec_FairMove.f 1 a0 a1 a2 a3 a4 a5 a6 a7 a8 a9 a10 a11 a12 a13 cpu fr to_ = some r := by
    unfold spec_FairMove.f
    simp only [sisFair_eq, sin_eq, spec_FairMove.j0, sMax0, Option.bind_some]
    repeat' split
    all_goals exact ⟨_, rfl⟩
  obtain ⟨r, h⟩ := h
  exact ⟨r, Ev.of (fun k => spec_FairMove.mono a0 a1 a2 a3 a4 a5 a6 a7 a8 a9 a10 a11 a12 a13 cpu fr to_ k) h⟩
theorem eqTask_refl (a0 a1 a2 a3 : Int) (a4 : Bool) (a5 a6 a7 a8 a9 a10 a11 a12 a13 : Int) : laws_eqTask.f a0 a1 a2 a3 a4 a5 a6 a7 a8 a9 a10 a11 a12 a13 a0 a1 a2 a3 a4 a5 a6 a7 a8 a9 a10 a11 a12 a13 = some true := by
  unfold laws_eqTask.f
  simp
theorem FnExactFairMove : laws_FnExactFairMove.Pure := by
  intro a0 a1 a2 a3 a4 a5 a6 a7 a8 a9 a10 a11 a12 a13 cpu fr to_ _ _ _ _
  refine Ev.rounds (r := true) ?_
  unfold laws_FnExactFairMove.f laws_toTask.f
  obtain ⟨r, hr⟩ := sfairMove_ev a0 a1 a2 a3 a4 a5 a6 a7 a8 a9 a10 a11 a12 a13 cpu fr to_
  simp only [Option.bind_some, fairMove_eq]
  refine Ev.bind hr (Ev.bind hr ?_)
  refine evEq _ (fun k => rfl) ?_
  simp [eqTask_refl]

end Go.Proofs.Ytnokdjkkgcpbdaa.Pure
