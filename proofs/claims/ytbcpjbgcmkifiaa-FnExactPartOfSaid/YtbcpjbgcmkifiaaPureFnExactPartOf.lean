/- The pure statement of FnExactPartOf: at all arguments the program's PartOf and the reference's agree, as plain functions over numbers and lists. Conditions: those of the statement (numbers of 64 bits, lists that lie in memory). -/
import Derived.Test.YtbcpjbgcmkifiaaPrint7
set_option linter.unusedVariables false
set_option linter.unusedSimpArgs false
namespace Go.Proofs.Ytbcpjbgcmkifiaa.Pure
open Go.RowKit Go.Proofs.Ytbcpjbgcmkifiaa.Print Go.Proofs.YtbcpjbgcmkifiaaW.PrintWords Go.Proofs.YtbcpjbgcmkifiaaW.PrintLast Go.Proofs.YtbcpjbgcmkifiaaW.PrintMore Go.Proofs.Ytbcpjbgcmkifiaa.Base

theorem rd_at (l : List Int) (i : Nat) (h : i < l.length) : rd l (i : Int) = l[i] := by
  unfold rd
  rw [Int.toNat_natCast, List.getD_eq_getElem?_getD, List.getElem?_eq_getElem h, Option.getD_some]
theorem set_step {α : Type} (l : List α) (d : α) (i : Nat) (h : i < l.length) : (l.take i ++ List.replicate (l.length - i) d).set i l[i] = l.take (i + 1) ++ List.replicate (l.length - (i + 1)) d := by
  have hl : (l.take i).length = i := by rw [List.length_take]; omega
  rw [List.set_append_right _ _ (by omega), hl, Nat.sub_self, show l.length - i = (l.length - (i + 1)) + 1 by omega, List.replicate_succ, List.set_cons_zero, List.take_succ_eq_append_getElem h, List.append_assoc]
  rfl
theorem full {α : Type} (l : List α) (d : α) (i : Nat) (h : l.length ≤ i) : l.take i ++ List.replicate (l.length - i) d = l := by
  rw [List.take_of_length_le h, show l.length - i = 0 by omega, List.replicate_zero, List.append_nil]
theorem toInts_loop (l : List Int) (hl : l.length ≤ maxLen) (d : Nat) : ∀ (k i : Nat), l.length - i ≤ d → d < k → laws_toIntS.l0 k l (l.take i ++ List.replicate (l.length - i) 0) (i : Int) = some l := by
  unfold maxLen at hl
  induction d with
  | zero =>
    intro k i hd hk
    obtain ⟨k, rfl⟩ : ∃ m, k = m + 1 := ⟨k - 1, by omega⟩
    simp only [laws_toIntS.l0]
    rw [if_neg (by omega), full l 0 i (by omega)]
  | succ d ih =>
    intro k i hd hk
    obtain ⟨k, rfl⟩ : ∃ m, k = m + 1 := ⟨k - 1, by omega⟩
    simp only [laws_toIntS.l0]
    by_cases h : i < l.length
    · rw [if_pos (by omega), if_pos (by omega), if_pos (by rw [List.length_append, List.length_take, List.length_replicate]; omega), rd_at l i h, Int.toNat_natCast, set_step l 0 i h, wr _ (by omega) (by omega)]
      exact ih k (i + 1) (by omega) (by omega)
    · rw [if_neg (by omega), full l 0 i (by omega)]
theorem toInts_ev (l : List Int) (hl : l.length ≤ 35184372088832) : Ev (fun k => laws_toIntS.f k l) l := by
  refine Ev.of (fun k => laws_toIntS.mono l k) (k := l.length + 1) ?_
  unfold laws_toIntS.f
  rw [if_pos (by omega), if_pos (by simp only [Int.toNat_natCast]; exact hl), Int.toNat_natCast]
  have := toInts_loop l (by unfold maxLen; omega) l.length (l.length + 1) 0 (by omega) (by omega)
  simpa using this
theorem eqInts_loop (l : List Int) (hl : l.length ≤ maxLen) (d : Nat) : ∀ (k i : Nat), l.length - i ≤ d → d < k → laws_eqIntS.l0 k l l (i : Int) = some true := by
  unfold maxLen at hl
  induction d with
  | zero =>
    intro k i hd hk
    obtain ⟨k, rfl⟩ : ∃ m, k = m + 1 := ⟨k - 1, by omega⟩
    simp only [laws_eqIntS.l0]
    rw [if_neg (by omega)]
  | succ d ih =>
    intro k i hd hk
    obtain ⟨k, rfl⟩ : ∃ m, k = m + 1 := ⟨k - 1, by omega⟩
    simp only [laws_eqIntS.l0]
    by_cases h : i < l.length
    · rw [if_pos (by omega), if_pos (by omega), if_pos (by omega), if_pos trivial, wr _ (by omega) (by omega)]
      exact ih k (i + 1) (by omega) (by omega)
    · rw [if_neg (by omega)]
theorem eqInts_ev (l : List Int) (hl : l.length ≤ maxLen) : Ev (fun k => laws_eqIntS.f k l l) true := by
  refine Ev.of (fun k => laws_eqIntS.mono l l k) (k := l.length + 1) ?_
  unfold laws_eqIntS.f
  rw [if_pos rfl]
  exact eqInts_loop l hl l.length (l.length + 1) 0 (by omega) (by omega)
theorem in_eq (a b c : Int) : impl_in.f a b c = some (decide (b ≤ a ∧ a ≤ c)) := by
  unfold impl_in.f
  by_cases h : a ≥ b
  · rw [if_pos h]; simp [show b ≤ a from h]
  · rw [if_neg h]; simp; omega
theorem sin_eq (a b c : Int) : spec_l1In.f a b c = some (decide (b ≤ a ∧ a ≤ c)) := by
  unfold spec_l1In.f
  by_cases h : a ≥ b
  · rw [if_pos h]; simp [show b ≤ a from h]
  · rw [if_neg h]; simp; omega
theorem nice_eq (a : Int) : impl_NiceOk.f a = some (decide (-4 ≤ a ∧ a ≤ 4)) := by
  unfold impl_NiceOk.f
  rw [in_eq]
  rfl
theorem snice_eq (a : Int) : spec_NiceOk.f a = some (decide (-4 ≤ a ∧ a ≤ 4)) := by
  unfold spec_NiceOk.f
  rw [sin_eq]
  rfl
def weightOf (a : Int) : Int := if a = -4 then 24 else if a = -3 then 16 else if a = -2 then 12 else if a = -1 then 8 else if a = 0 then 6 else if a = 1 then 4 else if a = 2 then 3 else if a = 3 then 2 else if a = 4 then 1 else 0
theorem nine {P : Int → Prop} (h : P (-4)) (h1 : P (-3)) (h2 : P (-2)) (h3 : P (-1)) (h4 : P 0) (h5 : P 1) (h6 : P 2) (h7 : P 3) (h8 : P 4) (a : Int) (h0 : -4 ≤ a ∧ a ≤ 4) : P a := by
  obtain rfl | rfl | rfl | rfl | rfl | rfl | rfl | rfl | rfl : a = -4 ∨ a = -3 ∨ a = -2 ∨ a = -1 ∨ a = 0 ∨ a = 1 ∨ a = 2 ∨ a = 3 ∨ a = 4 := by omega
  all_goals assumption
theorem weight_none (a : Int) (h : ¬ (-4 ≤ a ∧ a ≤ 4)) : weightOf a = 0 := by
  unfold weightOf
  iterate 9 rw [if_neg (by omega)]
theorem weight_eq (a : Int) : impl_WeightOf.f a = some (weightOf a) := by
  by_cases h : -4 ≤ a ∧ a ≤ 4
  · refine nine (P := fun a => impl_WeightOf.f a = some (weightOf a)) ?_ ?_ ?_ ?_ ?_ ?_ ?_ ?_ ?_ a h <;> decide +kernel
  · unfold impl_WeightOf.f
    simp only [nice_eq, h, Option.bind_some, decide_false, Bool.false_eq_true, if_false, weight_none a h]
theorem sweight_eq (a : Int) : spec_WeightOf.f a = some (weightOf a) := by
  by_cases h : -4 ≤ a ∧ a ≤ 4
  · refine nine (P := fun a => spec_WeightOf.f a = some (weightOf a)) ?_ ?_ ?_ ?_ ?_ ?_ ?_ ?_ ?_ a h <;> decide +kernel
  · unfold spec_WeightOf.f
    simp only [snice_eq, h, Option.bind_some, decide_false, Bool.false_eq_true, if_false, weight_none a h]
def partOf (w : Int) : List Int → Int → Int × Int × Bool
  | [], s => (w, s, true)
  | n :: r, s => if -4 ≤ n ∧ n ≤ 4 then partOf w r (wrap64 (s + weightOf n)) else (0, 0, false)
theorem iPart_loop (a : Int) (l : List Int) (hl : l.length ≤ maxLen) (d : Nat) : ∀ (k i : Nat) (s : Int), l.length - i ≤ d → d < k → impl_PartOf.l0 k a s l (l.length : Int) (i : Int) = some (partOf (weightOf a) (l.drop i) s) := by
  unfold maxLen at hl
  induction d with
  | zero =>
    intro k i s hd hk
    obtain ⟨k, rfl⟩ : ∃ m, k = m + 1 := ⟨k - 1, by omega⟩
    simp only [impl_PartOf.l0]
    rw [if_neg (by omega), List.drop_eq_nil_of_le (by omega), weight_eq]
    rfl
  | succ d ih =>
    intro k i s hd hk
    obtain ⟨k, rfl⟩ : ∃ m, k = m + 1 := ⟨k - 1, by omega⟩
    simp only [impl_PartOf.l0]
    by_cases h : i < l.length
    · rw [if_pos (by omega), if_pos (by omega), if_pos (by omega), rd_at l i h, nice_eq, weight_eq, List.drop_eq_getElem_cons h, partOf, wr (↑i + 1) (by omega) (by omega)]
      simp only [Option.bind_some, decide_eq_true_eq]
      split
      · exact ih k (i + 1) _ (by omega) (by omega)
      · rfl
    · rw [if_neg (by omega), List.drop_eq_nil_of_le (by omega), weight_eq]
      rfl
theorem sPart_loop (a : Int) (l : List Int) (hl : l.length ≤ maxLen) (d : Nat) : ∀ (k i : Nat) (s : Int), l.length - i ≤ d → d < k → spec_PartOf.l0 k a l s (i : Int) = some (partOf (weightOf a) (l.drop i) s) := by
  unfold maxLen at hl
  induction d with
  | zero =>
    intro k i s hd hk
    obtain ⟨k, rfl⟩ : ∃ m, k = m + 1 := ⟨k - 1, by omega⟩
    simp only [spec_PartOf.l0]
    rw [if_neg (by omega), List.drop_eq_nil_of_le (by omega), sweight_eq]
    rfl
  | succ d ih =>
    intro k i s hd hk
    obtain ⟨k, rfl⟩ : ∃ m, k = m + 1 := ⟨k - 1, by omega⟩
    simp only [spec_PartOf.l0]
    by_cases h : i < l.length
    · rw [if_pos (by omega), if_pos (by omega), rd_at l i h, snice_eq, sweight_eq, List.drop_eq_getElem_cons h, partOf, wr (↑i + 1) (by omega) (by omega)]
      simp only [Option.bind_some, decide_eq_true_eq]
      split
      · exact ih k (i + 1) _ (by omega) (by omega)
      · rfl
    · rw [if_neg (by omega), List.drop_eq_nil_of_le (by omega), sweight_eq]
      rfl
def part (a : Int) (l : List Int) : Int × Int × Bool := if -4 ≤ a ∧ a ≤ 4 then partOf (weightOf a) l (weightOf a) else (0, 0, false)
theorem iPart_ev (a : Int) (l : List Int) (hl : l.length ≤ maxLen) : Ev (fun k => impl_PartOf.f k a l) (part a l) := by
  refine Ev.of (fun k => impl_PartOf.mono a l k) (k := l.length + 1) ?_
  unfold impl_PartOf.f part
  rw [nice_eq, weight_eq]
  simp only [Option.bind_some, decide_eq_true_eq]
  split
  · exact iPart_loop a l hl l.length _ 0 _ (by omega) (by omega)
  · rfl
theorem sPart_ev (a : Int) (l : List Int) (hl : l.length ≤ maxLen) : Ev (fun k => spec_PartOf.f k a l) (part a l) := by
  refine Ev.of (fun k => spec_PartOf.mono a l k) (k := l.length + 1) ?_
  unfold spec_PartOf.f part
  rw [snice_eq, sweight_eq]
  simp only [Option.bind_some, decide_eq_true_eq]
  split
  · exact sPart_loop a l hl l.length _ 0 _ (by omega) (by omega)
  · rfl
theorem FnExactPartOf : laws_FnExactPartOf.Pure := by
  intro a l _ hl _ _
  refine Ev.rounds (r := true) ?_
  unfold laws_FnExactPartOf.f
  by_cases hb : (l.length : Int) > 1048576
  · exact evPos hb (Ev.now _)
  · refine evNeg hb ?_
    have ht := toInts_ev l (by omega)
    refine Ev.bind ht (Ev.bind (sPart_ev a l hl) (Ev.bind ht (Ev.bind (iPart_ev a l hl) ?_)))
    simp only [if_true, bne_self_eq_false]
    refine Ev.step (fun k => by simp only [laws_FnExactPartOf.j0]; rfl) (evNeg (by simp) ?_)
    refine Ev.bind ht (Ev.bind (eqInts_ev l hl) ?_)
    simp only [if_true]
    exact Ev.now _

end Go.Proofs.Ytbcpjbgcmkifiaa.Pure
