/- The pure statement of FnExactWeightOf: for every 64-bit integer the program's WeightOf and the reference's agree. Condition: the argument is a 64-bit integer. -/
import Derived.Test.YtbcpjbgcmkifiaaPFnExactWeightOfx1
set_option linter.unusedVariables false
set_option linter.unusedSimpArgs false
namespace Go.Proofs.Ytbcpjbgcmkifiaa.Pure
open Go.RowKit Go.Proofs.Ytbcpjbgcmkifiaa.PFnExactWeightOf Go.Proofs.YtbcpjbgcmkifiaaW.PrintWords Go.Proofs.YtbcpjbgcmkifiaaW.PrintLast Go.Proofs.YtbcpjbgcmkifiaaW.PrintMore

theorem wr (x : Int) (h0 : -9223372036854775808 ≤ x) (h1 : x < 9223372036854775808) : wrap64 x = x := by unfold wrap64; omega
theorem wr_le (x : Int) : -9223372036854775808 ≤ wrap64 x ∧ wrap64 x ≤ 9223372036854775807 := by unfold wrap64; omega
theorem evPos {α : Type} {c : Prop} [Decidable c] {f g : Nat → Option α} {r : α} (h : c) (e : Ev f r) : Ev (fun n => if c then f n else g n) r := Ev.congr (fun _ => if_pos h) e
theorem evNeg {α : Type} {c : Prop} [Decidable c] {f g : Nat → Option α} {r : α} (h : ¬ c) (e : Ev g r) : Ev (fun n => if c then f n else g n) r := Ev.congr (fun _ => if_neg h) e
theorem evEq {α : Type} {f : Nat → Option α} {r : α} (o : Option α) (h : ∀ k, f k = o) (e : o = some r) : Ev f r := ⟨0, fun k _ => (h k).trans e⟩
theorem in_eq (a b c : Int) : impl_in.f a b c = some (decide (b ≤ a ∧ a ≤ c)) := by
  unfold impl_in.f
  by_cases h : a ≥ b
  · rw [if_pos h]; simp [show b ≤ a from h]
  · rw [if_neg h]; simp; omega
theorem sin_eq (a b c : Int) : spec_l1In.f a b c = some (decide (b ≤ a ∧ a ≤ c)) := by
  unfold spec_l1In.f
  by_cases h : a ≥ b
  · rw [if_pos h]; simp [show b ≤ a from h]
  · rw [if_neg h]; simp; omega
theorem nice_eq (a : Int) : impl_NiceOk.f a = some (decide (-4 ≤ a ∧ a ≤ 4)) := by
  unfold impl_NiceOk.f
  rw [in_eq]
  rfl
theorem snice_eq (a : Int) : spec_NiceOk.f a = some (decide (-4 ≤ a ∧ a ≤ 4)) := by
  unfold spec_NiceOk.f
  rw [sin_eq]
  rfl
def weightOf (a : Int) : Int := if a = -4 then 24 else if a = -3 then 16 else if a = -2 then 12 else if a = -1 then 8 else if a = 0 then 6 else if a = 1 then 4 else if a = 2 then 3 else if a = 3 then 2 else if a = 4 then 1 else 0
theorem nine {P : Int → Prop} (h : P (-4)) (h1 : P (-3)) (h2 : P (-2)) (h3 : P (-1)) (h4 : P 0) (h5 : P 1) (h6 : P 2) (h7 : P 3) (h8 : P 4) (a : Int) (h0 : -4 ≤ a ∧ a ≤ 4) : P a := by
  obtain rfl | rfl | rfl | rfl | rfl | rfl | rfl | rfl | rfl : a = -4 ∨ a = -3 ∨ a = -2 ∨ a = -1 ∨ a = 0 ∨ a = 1 ∨ a = 2 ∨ a = 3 ∨ a = 4 := by omega
  all_goals assumption
theorem weight_none (a : Int) (h : ¬ (-4 ≤ a ∧ a ≤ 4)) : weightOf a = 0 := by
  unfold weightOf
  iterate 9 rw [if_neg (by omega)]
theorem weight_eq (a : Int) : impl_WeightOf.f a = some (weightOf a) := by
  by_cases h : -4 ≤ a ∧ a ≤ 4
  · refine nine (P := fun a => impl_WeightOf.f a = some (weightOf a)) ?_ ?_ ?_ ?_ ?_ ?_ ?_ ?_ ?_ a h <;> decide +kernel
  · unfold impl_WeightOf.f
    simp only [nice_eq, h, Option.bind_some, decide_false, Bool.false_eq_true, if_false, weight_none a h]
theorem sweight_eq (a : Int) : spec_WeightOf.f a = some (weightOf a) := by
  by_cases h : -4 ≤ a ∧ a ≤ 4
  · refine nine (P := fun a => spec_WeightOf.f a = some (weightOf a)) ?_ ?_ ?_ ?_ ?_ ?_ ?_ ?_ ?_ a h <;> decide +kernel
  · unfold spec_WeightOf.f
    simp only [snice_eq, h, Option.bind_some, decide_false, Bool.false_eq_true, if_false, weight_none a h]
theorem FnExactWeightOf : laws_FnExactWeightOf.Pure := by
  intro a _
  unfold laws_FnExactWeightOf.f
  simp only [weight_eq, sweight_eq, Option.bind_some, if_true]

end Go.Proofs.Ytbcpjbgcmkifiaa.Pure
