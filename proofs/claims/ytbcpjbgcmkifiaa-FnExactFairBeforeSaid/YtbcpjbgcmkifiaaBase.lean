/- Small plain facts: when a number does not wrap, what a chain of tests comes to, what makes a task right. No condition. -/
import Derived.RowKit
import Derived.Laws.BitsLemmas
import Derived.Test.YtbcpjbgcmkifiaaWWords
set_option linter.unusedVariables false
set_option linter.unusedSimpArgs false
namespace Go.Proofs.Ytbcpjbgcmkifiaa.Base
open Go.RowKit Go.Proofs.YtbcpjbgcmkifiaaW.PrintWords
theorem wr (x : Int) (h0 : -9223372036854775808 ≤ x) (h1 : x < 9223372036854775808) : wrap64 x = x := by unfold wrap64; omega
theorem wr_le (x : Int) : -9223372036854775808 ≤ wrap64 x ∧ wrap64 x ≤ 9223372036854775807 := by unfold wrap64; omega
theorem evPos {α : Type} {c : Prop} [Decidable c] {f g : Nat → Option α} {r : α} (h : c) (e : Ev f r) : Ev (fun n => if c then f n else g n) r := Ev.congr (fun _ => if_pos h) e
theorem evNeg {α : Type} {c : Prop} [Decidable c] {f g : Nat → Option α} {r : α} (h : ¬ c) (e : Ev g r) : Ev (fun n => if c then f n else g n) r := Ev.congr (fun _ => if_neg h) e
theorem evEq {α : Type} {f : Nat → Option α} {r : α} (o : Option α) (h : ∀ k, f k = o) (e : o = some r) : Ev f r := ⟨0, fun k _ => (h k).trans e⟩
/-! A chain of ifs over decided things is one decision. -/
theorem dFalse : (some false : Option Bool) = some (decide False) := rfl
theorem dTrue : (some true : Option Bool) = some (decide True) := rfl
theorem dIte (c p q : Prop) [Decidable c] [Decidable p] [Decidable q] : (if c then some (decide p) else some (decide q)) = some (decide ((c ∧ p) ∨ (¬ c ∧ q))) := by
  by_cases c <;> simp [*]
theorem dBeq (a b : Int) : (a == b) = decide (a = b) := by by_cases h : a = b <;> simp [h]
theorem dBne (a b : Int) : (a != b) = decide (¬ a = b) := by by_cases h : a = b <;> simp [h]
theorem dAnd (p q : Prop) [Decidable p] [Decidable q] : (decide p && decide q) = decide (p ∧ q) := by by_cases p <;> by_cases q <;> simp [*]
theorem dOr (p q : Prop) [Decidable p] [Decidable q] : (decide p || decide q) = decide (p ∨ q) := by by_cases p <;> by_cases q <;> simp [*]
theorem dNot (p : Prop) [Decidable p] : (!decide p) = decide (¬ p) := by by_cases p <;> simp [*]
def ShareP (q p : Int) : Prop := (1 ≤ p ∧ p ≤ 40) ∧ 1 ≤ q ∧ q ≤ p
instance (q p : Int) : Decidable (ShareP q p) := by unfold ShareP; infer_instance
/-- What makes a task right. -/
def TaskP (a0 a1 a2 a3 a5 a6 a7 a8 a9 a10 a11 a12 a13 : Int) : Prop :=
  (1 ≤ a0 ∧ a0 ≤ 1000) ∧ (0 ≤ a2 ∧ a2 ≤ 3) ∧ (1 ≤ a3 ∧ a3 ≤ 2) ∧
  ((a1 = 1 ∧ a9 = 0 ∧ a10 = 0 ∧ a11 = 0 ∧ a12 = 0 ∧ a13 = 0 ∧ (1 ≤ a6 ∧ a6 ≤ 40) ∧ (1 ≤ a5 ∧ a5 ≤ a6) ∧ (0 ≤ a7 ∧ a7 ≤ a5) ∧ (0 ≤ a8 ∧ a8 ≤ 100040)) ∨
   (a1 = 2 ∧ a5 = 0 ∧ a6 = 0 ∧ a8 = 0 ∧ a12 = 0 ∧ a13 = 0 ∧ (1 ≤ a9 ∧ a9 ≤ 20) ∧ (0 ≤ a10 ∧ a10 ≤ 10) ∧ ((1 ≤ a7 ∨ a10 ≤ a7) ∧ a7 ≤ a10) ∧ (0 ≤ a11 ∧ a11 ≤ 1000000)) ∨
   (a1 = 3 ∧ a5 = 0 ∧ a6 = 0 ∧ a8 = 0 ∧ a7 = 0 ∧ a9 = 0 ∧ a10 = 0 ∧ a11 = 0 ∧ (-4 ≤ a12 ∧ a12 ≤ 4) ∧ (0 ≤ a13 ∧ a13 ≤ 100000000)))
instance (a0 a1 a2 a3 a5 a6 a7 a8 a9 a10 a11 a12 a13 : Int) : Decidable (TaskP a0 a1 a2 a3 a5 a6 a7 a8 a9 a10 a11 a12 a13) := by unfold TaskP; infer_instance
def CleanP (a1 a5 a6 a7 a8 a9 a10 a11 a12 a13 : Int) : Prop :=
  (a1 = 1 ∧ (a9 = 0 ∧ a10 = 0 ∧ a11 = 0) ∧ a12 = 0 ∧ a13 = 0) ∨ (a1 = 2 ∧ (a5 = 0 ∧ a6 = 0 ∧ a8 = 0) ∧ a12 = 0 ∧ a13 = 0) ∨ (¬ a1 = 1 ∧ ¬ a1 = 2 ∧ (a5 = 0 ∧ a6 = 0 ∧ a8 = 0) ∧ (a9 = 0 ∧ a10 = 0 ∧ a11 = 0) ∧ a7 = 0)
instance (a1 a5 a6 a7 a8 a9 a10 a11 a12 a13 : Int) : Decidable (CleanP a1 a5 a6 a7 a8 a9 a10 a11 a12 a13) := by unfold CleanP; infer_instance
end Go.Proofs.Ytbcpjbgcmkifiaa.Base
