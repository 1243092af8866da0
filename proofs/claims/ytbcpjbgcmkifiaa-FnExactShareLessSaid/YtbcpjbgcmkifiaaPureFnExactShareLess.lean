/- The pure statement of FnExactShareLess: at all arguments the program's ShareLess and the reference's agree, as plain functions over numbers and lists. Conditions: those of the statement (numbers of 64 bits, lists that lie in memory). -/
import Derived.Test.YtbcpjbgcmkifiaaPrint4
set_option linter.unusedVariables false
set_option linter.unusedSimpArgs false
namespace Go.Proofs.Ytbcpjbgcmkifiaa.Pure
open Go.RowKit Go.Proofs.Ytbcpjbgcmkifiaa.Print Go.Proofs.YtbcpjbgcmkifiaaW.PrintWords Go.Proofs.YtbcpjbgcmkifiaaW.PrintLast Go.Proofs.YtbcpjbgcmkifiaaW.PrintMore Go.Proofs.Ytbcpjbgcmkifiaa.Base

theorem in_eq (a b c : Int) : impl_in.f a b c = some (decide (b ≤ a ∧ a ≤ c)) := by
  unfold impl_in.f
  by_cases h : a ≥ b
  · rw [if_pos h]; simp [show b ≤ a from h]
  · rw [if_neg h]; simp; omega
theorem sin_eq (a b c : Int) : spec_l1In.f a b c = some (decide (b ≤ a ∧ a ≤ c)) := by
  unfold spec_l1In.f
  by_cases h : a ≥ b
  · rw [if_pos h]; simp [show b ≤ a from h]
  · rw [if_neg h]; simp; omega
theorem share_eq (q p : Int) : impl_ShareOk.f q p = some (decide (ShareP q p)) := by
  unfold impl_ShareOk.f ShareP
  simp only [in_eq, Option.bind_some, decide_eq_true_eq]
  by_cases h : 1 ≤ p ∧ p ≤ 40
  · simp only [h, and_self, if_true, true_and]
  · simp only [h, if_false, false_and, decide_false]
theorem sshare_eq (q p : Int) : spec_ShareOk.f q p = some (decide (ShareP q p)) := by
  unfold spec_ShareOk.f ShareP
  simp only [sin_eq, Option.bind_some, decide_eq_true_eq]
  by_cases h : 1 ≤ p ∧ p ≤ 40
  · simp only [h, and_self, if_true, true_and]
  · simp only [h, if_false, false_and, decide_false]
theorem less_eq (a b c d : Int) : impl_ShareLess.f a b c d = spec_ShareLess.f a b c d := by
  unfold impl_ShareLess.f spec_ShareLess.f
  simp only [share_eq, sshare_eq]
theorem sless_some (a b c d : Int) : ∃ r, spec_ShareLess.f a b c d = some r := by
  unfold spec_ShareLess.f
  simp only [sshare_eq, Option.bind_some]
  split
  · split <;> exact ⟨_, rfl⟩
  · exact ⟨_, rfl⟩
theorem FnExactShareLess : laws_FnExactShareLess.Pure := by
  intro a b c d _ _
  unfold laws_FnExactShareLess.f laws_toShare.f
  obtain ⟨r, hr⟩ := sless_some a b c d
  simp only [less_eq, hr, Option.bind_some, bne_self_eq_false, Bool.false_eq_true, if_false]

end Go.Proofs.Ytbcpjbgcmkifiaa.Pure
