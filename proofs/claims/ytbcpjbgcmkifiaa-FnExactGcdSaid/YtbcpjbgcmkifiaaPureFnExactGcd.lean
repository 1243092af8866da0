/- The pure statement of FnExactGcd: for all 64-bit integers the program's Gcd and the reference's agree. Condition: the arguments are 64-bit integers. -/
import Derived.Test.YtbcpjbgcmkifiaaPFnExactGcdx1
set_option linter.unusedVariables false
set_option linter.unusedSimpArgs false
namespace Go.Proofs.Ytbcpjbgcmkifiaa.Pure
open Go.RowKit Go.Proofs.Ytbcpjbgcmkifiaa.PFnExactGcd Go.Proofs.YtbcpjbgcmkifiaaW.PrintWords Go.Proofs.YtbcpjbgcmkifiaaW.PrintLast Go.Proofs.YtbcpjbgcmkifiaaW.PrintMore

theorem wr (x : Int) (h0 : -9223372036854775808 ≤ x) (h1 : x < 9223372036854775808) : wrap64 x = x := by unfold wrap64; omega
theorem wr_le (x : Int) : -9223372036854775808 ≤ wrap64 x ∧ wrap64 x ≤ 9223372036854775807 := by unfold wrap64; omega
theorem evPos {α : Type} {c : Prop} [Decidable c] {f g : Nat → Option α} {r : α} (h : c) (e : Ev f r) : Ev (fun n => if c then f n else g n) r := Ev.congr (fun _ => if_pos h) e
theorem evNeg {α : Type} {c : Prop} [Decidable c] {f g : Nat → Option α} {r : α} (h : ¬ c) (e : Ev g r) : Ev (fun n => if c then f n else g n) r := Ev.congr (fun _ => if_neg h) e
theorem evEq {α : Type} {f : Nat → Option α} {r : α} (o : Option α) (h : ∀ k, f k = o) (e : o = some r) : Ev f r := ⟨0, fun k _ => (h k).trans e⟩
theorem gcd_step (x0 x1 : Int) (h : x1 ≠ 0) : Int.gcd x1 (Int.tmod x0 x1) = Int.gcd x0 x1 := by
  unfold Int.gcd
  rw [Int.natAbs_tmod, Nat.gcd_comm x0.natAbs, Nat.gcd_comm x1.natAbs (x0.natAbs % x1.natAbs), ← Nat.gcd_rec]

theorem impl_gcd_l0 (n : Nat) : ∀ (k : Nat) (x0 x1 : Int), x1.natAbs < n → n ≤ k → x0.natAbs ≤ 9223372036854775807 → x1.natAbs ≤ 9223372036854775807 → impl_gcd.l0 k x0 x1 = some ((Int.gcd x0 x1 : Nat) : Int) := by
  induction n with
  | zero => intro k x0 x1 h; omega
  | succ n ih =>
    intro k x0 x1 h hk h0 h1
    obtain ⟨k, rfl⟩ : ∃ m, k = m + 1 := ⟨k - 1, by omega⟩
    simp only [impl_gcd.l0]
    by_cases e : x1 = 0
    · subst e
      rw [if_pos rfl, Int.gcd_zero_right]
      congr 1
      unfold mx wrap64
      split <;> omega
    · rw [if_neg e]
      have hm : (Int.tmod x0 x1).natAbs < x1.natAbs := by rw [Int.natAbs_tmod]; exact Nat.mod_lt _ (by omega)
      rw [ih k x1 _ (by omega) (by omega) h1 (by omega), gcd_step _ _ e]

theorem spec_gcd_l0 (n : Nat) : ∀ (k : Nat) (x0 x1 : Int), x1.natAbs < n → n ≤ k → 0 ≤ x0 → 0 ≤ x1 → spec_l1Gcd.l0 k x0 x1 = some ((Int.gcd x0 x1 : Nat) : Int) := by
  induction n with
  | zero => intro k x0 x1 h; omega
  | succ n ih =>
    intro k x0 x1 h hk h0 h1
    obtain ⟨k, rfl⟩ : ∃ m, k = m + 1 := ⟨k - 1, by omega⟩
    simp only [spec_l1Gcd.l0]
    by_cases e : x1 = 0
    · subst e
      rw [if_neg (by omega), Int.gcd_zero_right]
      congr 1
      omega
    · rw [if_pos (by omega), if_neg e]
      have hm : (Int.tmod x0 x1).natAbs < x1.natAbs := by rw [Int.natAbs_tmod]; exact Nat.mod_lt _ (by omega)
      have hn : 0 ≤ Int.tmod x0 x1 := Int.tmod_nonneg _ h0
      rw [ih k x1 _ (by omega) (by omega) h1 hn, gcd_step _ _ e]
theorem gcd_div (a b : Int) (h : Int.gcd a b ≠ 0) : Int.gcd (Int.tdiv a (Int.gcd a b)) (Int.tdiv b (Int.gcd a b)) = 1 := by
  have ha : ((Int.gcd a b : Nat) : Int) ∣ a := Int.gcd_dvd_left ..
  have hb : ((Int.gcd a b : Nat) : Int) ∣ b := Int.gcd_dvd_right ..
  unfold Int.gcd
  rw [Int.natAbs_tdiv, Int.natAbs_tdiv]
  simp only [Int.natAbs_natCast]
  show Nat.gcd (a.natAbs / Nat.gcd a.natAbs b.natAbs) (b.natAbs / Nat.gcd a.natAbs b.natAbs) = 1
  rw [Nat.gcd_div (Nat.gcd_dvd_left _ _) (Nat.gcd_dvd_right _ _)]
  exact Nat.div_self (by unfold Int.gcd at h; omega)
theorem in_eq (a b c : Int) : impl_in.f a b c = some (decide (b ≤ a ∧ a ≤ c)) := by
  unfold impl_in.f
  by_cases h : a ≥ b
  · rw [if_pos h]; simp [show b ≤ a from h]
  · rw [if_neg h]; simp; omega
theorem sin_eq (a b c : Int) : spec_l1In.f a b c = some (decide (b ≤ a ∧ a ≤ c)) := by
  unfold spec_l1In.f
  by_cases h : a ≥ b
  · rw [if_pos h]; simp [show b ≤ a from h]
  · rw [if_neg h]; simp; omega
def gcdOf (a b : Int) : Int := if (-1000000 ≤ a ∧ a ≤ 1000000) ∧ (-1000000 ≤ b ∧ b ≤ 1000000) then ((Int.gcd a b : Nat) : Int) else 0
theorem iGcd_ev (a b : Int) : Ev (fun k => impl_Gcd.f k a b) (gcdOf a b) := by
  unfold impl_Gcd.f gcdOf
  simp only [in_eq, Option.bind_some]
  by_cases ha : -1000000 ≤ a ∧ a ≤ 1000000
  · by_cases hb : -1000000 ≤ b ∧ b ≤ 1000000
    · simp only [ha, hb, and_self, decide_true, if_true]
      refine Ev.bind (a := ((Int.gcd a b : Nat) : Int)) ?_ (Ev.now _)
      refine Ev.of (fun k => impl_gcd.mono a b k) (k := b.natAbs + 1) ?_
      exact impl_gcd_l0 (b.natAbs + 1) _ a b (by omega) (by omega) (by omega) (by omega)
    · simp only [ha, hb, decide_false, and_false, if_false]
      exact Ev.now _
  · simp only [ha, decide_false, false_and, if_false]
    exact Ev.now _
theorem sMax_eq (a b : Int) : spec_l1Max.f a b = some (max a b) := by
  unfold spec_l1Max.f
  split <;> congr 1 <;> omega
theorem sGcd_ev (a b : Int) : Ev (fun k => spec_Gcd.f k a b) (gcdOf a b) := by
  unfold spec_Gcd.f gcdOf
  simp only [sin_eq, Option.bind_some]
  by_cases ha : -1000000 ≤ a ∧ a ≤ 1000000
  · by_cases hb : -1000000 ≤ b ∧ b ≤ 1000000
    · simp only [ha, hb, and_self, decide_true, if_true, Bool.not_true]
      refine Ev.step (fun k => by simp only [spec_Gcd.j0]; rfl) ?_
      simp only [sMax_eq, Option.bind_some, Bool.false_eq_true, if_false, wr (-a) (by omega) (by omega), wr (-b) (by omega) (by omega)]
      refine Ev.bind (a := ((Int.gcd a b : Nat) : Int)) ?_ (Ev.now _)
      refine Ev.of (fun k => spec_l1Gcd.mono _ _ k) (k := b.natAbs + 1) ?_
      have := spec_gcd_l0 (b.natAbs + 1) (b.natAbs + 1) (max a (-a)) (max b (-b)) (by omega) (by omega) (by omega) (by omega)
      unfold spec_l1Gcd.f
      rw [this]
      unfold Int.gcd
      rw [show (max a (-a)).natAbs = a.natAbs by omega, show (max b (-b)).natAbs = b.natAbs by omega]
    · simp only [ha, hb, decide_false, and_false, if_false, Bool.not_false]
      refine Ev.step (fun k => by simp only [spec_Gcd.j0]; rfl) ?_
      exact Ev.now _
  · simp only [ha, decide_false, false_and, if_false]
    refine Ev.step (fun k => by simp only [spec_Gcd.j0]; rfl) ?_
    exact Ev.now _
theorem FnExactGcd : laws_FnExactGcd.Pure := by
  intro a b _ _
  refine Ev.rounds (r := true) ?_
  unfold laws_FnExactGcd.f
  refine Ev.bind (sGcd_ev a b) ?_
  refine Ev.bind (iGcd_ev a b) ?_
  simp only [if_true]
  exact Ev.now _

end Go.Proofs.Ytbcpjbgcmkifiaa.Pure
