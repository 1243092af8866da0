/- The pure statement of FnExactNewFixed: at all arguments the program's NewFixed and the reference's agree, as plain functions over numbers and lists. Conditions: those of the statement (numbers of 64 bits, lists that lie in memory). -/
import Derived.Test.YtnokdjkkgcpbdaaPrint23
set_option linter.unusedVariables false
set_option linter.unusedSimpArgs false
namespace Go.Proofs.Ytnokdjkkgcpbdaa.Pure
open Go.RowKit Go.Proofs.Ytnokdjkkgcpbdaa.Print Go.Proofs.YtnokdjkkgcpbdaaW.PrintWords Go.Proofs.YtnokdjkkgcpbdaaW.PrintLast Go.Proofs.YtnokdjkkgcpbdaaW.PrintMore Go.Proofs.Ytnokdjkkgcpbdaa.Base

theorem made_eq (a0 a1 a2 a3 : Int) (a4 : Bool) (a5 a6 a7 a8 a9 a10 a11 a12 a13 : Int) : impl_made.f a0 a1 a2 a3 a4 a5 a6 a7 a8 a9 a10 a11 a12 a13 = spec_l3New.f a0 a1 a2 a3 a4 a5 a6 a7 a8 a9 a10 a11 a12 a13 := by
  unfold impl_made.f spec_l3New.f impl_TaskOk.f spec_TaskOk.f
  rfl
theorem snew_some (a0 a1 a2 a3 : Int) (a4 : Bool) (a5 a6 a7 a8 a9 a10 a11 a12 a13 : Int) : ∃ r, spec_l3New.f a0 a1 a2 a3 a4 a5 a6 a7 a8 a9 a10 a11 a12 a13 = some r := by
  unfold spec_l3New.f spec_TaskOk.f
  simp only [Option.bind_some]
  split <;> exact ⟨_, rfl⟩
theorem eqTask_refl (a0 a1 a2 a3 : Int) (a4 : Bool) (a5 a6 a7 a8 a9 a10 a11 a12 a13 : Int) : laws_eqTask.f a0 a1 a2 a3 a4 a5 a6 a7 a8 a9 a10 a11 a12 a13 a0 a1 a2 a3 a4 a5 a6 a7 a8 a9 a10 a11 a12 a13 = some true := by
  unfold laws_eqTask.f
  simp
theorem FnExactNewFixed : laws_FnExactNewFixed.Pure := by
  intro no cpu prio round seq _ _ _ _ _
  unfold laws_FnExactNewFixed.f impl_NewFixed.f spec_NewFixed.f
  obtain ⟨r, hr⟩ := snew_some no 2 cpu 1 false 0 0 round 0 prio round seq 0 0
  simp [made_eq, hr, eqTask_refl]

end Go.Proofs.Ytnokdjkkgcpbdaa.Pure
