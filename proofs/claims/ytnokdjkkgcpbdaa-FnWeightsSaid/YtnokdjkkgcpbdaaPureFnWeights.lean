/- The pure statement of FnWeights, over numbers and lists: who is nicer has the lesser weight and the greater step; weight and step are Scale together; the parts of all make the whole. Conditions: those of the statement (the drawn bytes lie in memory). -/
import Derived.Test.YtnokdjkkgcpbdaaPrint5
set_option linter.unusedVariables false
set_option linter.unusedSimpArgs false
namespace Go.Proofs.Ytnokdjkkgcpbdaa.Pure
open Go.RowKit Go.Proofs.Ytnokdjkkgcpbdaa.Print Go.Proofs.YtnokdjkkgcpbdaaW.PrintWords Go.Proofs.YtnokdjkkgcpbdaaW.PrintLast Go.Proofs.YtnokdjkkgcpbdaaW.PrintMore Go.Proofs.Ytnokdjkkgcpbdaa.Base

theorem and255 (x : Int) : 0 ≤ Go.bits .and .i64 x 255 ∧ Go.bits .and .i64 x 255 ≤ 255 := by
  have e : Go.bits .and .i64 x 255 = IntKind.i64.wrap (((BitVec.ofInt 64 x) &&& (BitVec.ofInt 64 255)).toNat : Nat) := rfl
  have h : ((BitVec.ofInt 64 x) &&& (BitVec.ofInt 64 255)).toNat ≤ 255 := by rw [BitVec.toNat_and]; exact Nat.and_le_right
  rw [e, IntKind.wrap_i64]
  omega

/-! The cursor over the drawn bytes: whatever it holds, a draw answers. -/
theorem new_loop (l : List Int) (hl : l.length ≤ maxLen) (d : Nat) : ∀ (k : Nat) (h i : Int), 0 ≤ i → (l.length : Int) - i ≤ d → d < k → ∃ h', spec_l1New.l0 k l h i = some (l, 0, h') := by
  unfold maxLen at hl
  induction d with
  | zero =>
    intro k h i h0 hd hk
    obtain ⟨k, rfl⟩ : ∃ m, k = m + 1 := ⟨k - 1, by omega⟩
    exact ⟨h, by simp only [spec_l1New.l0]; rw [if_neg (by omega)]⟩
  | succ d ih =>
    intro k h i h0 hd hk
    obtain ⟨k, rfl⟩ : ∃ m, k = m + 1 := ⟨k - 1, by omega⟩
    simp only [spec_l1New.l0]
    by_cases e : i < (l.length : Int)
    · rw [if_pos e]
      by_cases e2 : i < 4000
      · rw [if_pos e2, if_pos h0, wr (i + 1) (by omega) (by omega)]
        exact ih k _ _ (by omega) (by omega) (by omega)
      · rw [if_neg e2]
        exact ⟨_, rfl⟩
    · rw [if_neg e]
      exact ⟨_, rfl⟩
theorem new_ev (l : List Int) (hl : l.length ≤ maxLen) : ∃ h, Ev (fun k => spec_l1New.f k l) (l, 0, h) := by
  obtain ⟨h, e⟩ := new_loop l hl l.length (l.length + 1) (wrap64 (18511 + (l.length : Int))) 0 (by omega) (by omega) (by omega)
  exact ⟨h, Ev.of (fun k => spec_l1New.mono l k) e⟩
theorem byte_some (l : List Int) (hl : l.length ≤ maxLen) (i h : Int) (h0 : 0 ≤ i) : ∃ b i' h', spec_l1Byte.f l i h = some (b, i', h') ∧ 0 ≤ b ∧ b ≤ 255 ∧ 0 ≤ i' := by
  unfold maxLen at hl
  unfold spec_l1Byte.f
  by_cases e : i < (l.length : Int)
  · rw [if_pos e, if_pos h0, wr (i + 1) (by omega) (by omega)]
    exact ⟨_, _, _, rfl, (and255 _).1, (and255 _).2, by omega⟩
  · rw [if_neg e]
    exact ⟨_, _, _, rfl, (and255 _).1, (and255 _).2, by omega⟩
theorem below_some (l : List Int) (hl : l.length ≤ maxLen) (i h n : Int) (h0 : 0 ≤ i) : ∃ r i' h', spec_l1Below.f l i h n = some (r, i', h') ∧ 0 ≤ i' ∧ 0 ≤ r ∧ (0 < n → r < n) ∧ (n ≤ 0 → r = 0) := by
  unfold spec_l1Below.f
  by_cases e : n ≤ 0
  · rw [if_pos e]
    exact ⟨_, _, _, rfl, h0, by omega, by omega, by omega⟩
  · rw [if_neg e]
    obtain ⟨b, i1, h1, e1, b0, b1, p1⟩ := byte_some l hl i h h0
    by_cases e2 : n ≤ 256
    · rw [if_pos e2, e1]
      simp only [Option.bind_some]
      rw [if_neg (by omega)]
      have := Int.tmod_nonneg n b0
      have := Int.tmod_lt_of_pos b (show 0 < n by omega)
      exact ⟨_, _, _, rfl, p1, by omega, by omega, by omega⟩
    · rw [if_neg e2, e1]
      simp only [Option.bind_some]
      obtain ⟨c, i2, h2, e3, c0, c1, p2⟩ := byte_some l hl i1 h1 p1
      rw [e3]
      simp only [Option.bind_some]
      obtain ⟨d, i3, h3, e4, d0, d1, p3⟩ := byte_some l hl i2 h2 p2
      rw [e4]
      simp only [Option.bind_some]
      obtain ⟨f, i4, h4, e5, f0, f1, p4⟩ := byte_some l hl i3 h3 p3
      rw [e5]
      simp only [Option.bind_some]
      rw [if_neg (by omega), wr (b * 16777216) (by omega) (by omega), wr (c * 65536) (by omega) (by omega), wr (d * 256) (by omega) (by omega), wr (b * 16777216 + c * 65536) (by omega) (by omega), wr (b * 16777216 + c * 65536 + d * 256) (by omega) (by omega), wr (b * 16777216 + c * 65536 + d * 256 + f) (by omega) (by omega)]
      have := Int.tmod_nonneg n (show 0 ≤ b * 16777216 + c * 65536 + d * 256 + f by omega)
      have := Int.tmod_lt_of_pos (b * 16777216 + c * 65536 + d * 256 + f) (show 0 < n by omega)
      exact ⟨_, _, _, rfl, p4, by omega, by omega, by omega⟩
theorem pick_some (l : List Int) (hl : l.length ≤ maxLen) (i h : Int) (xs : List Int) (h0 : 0 ≤ i) (hx : 0 < xs.length) : ∃ r i' h', spec_l1PickInt.f l i h xs = some (r, i', h') ∧ 0 ≤ i' ∧ r ∈ xs := by
  unfold spec_l1PickInt.f
  obtain ⟨r, i1, h1, e, p1, r0, r1, _⟩ := below_some l hl i h (xs.length : Int) h0
  have r1 := r1 (by omega)
  rw [e]
  simp only [Option.bind_some]
  rw [if_pos r0, if_pos r1]
  refine ⟨_, _, _, rfl, p1, ?_⟩
  unfold rd
  rw [List.getD_eq_getElem?_getD, List.getElem?_eq_getElem (by omega), Option.getD_some]
  exact List.getElem_mem _
theorem once_some (l : List Int) (hl : l.length ≤ maxLen) (i h n : Int) (h0 : 0 ≤ i) : ∃ b i' h', spec_l1Once.f l i h n = some (b, i', h') ∧ 0 ≤ i' := by
  obtain ⟨r, i', h', e, p, _⟩ := below_some l hl i h n h0
  exact ⟨r == 0, i', h', by unfold spec_l1Once.f; rw [e]; rfl, p⟩
theorem nice_some (l : List Int) (hl : l.length ≤ maxLen) (i h : Int) (h0 : 0 ≤ i) : ∃ r i' h', spec_l2DrawNice.f l i h = some (r, i', h') ∧ 0 ≤ i' := by
  unfold spec_l2DrawNice.f
  obtain ⟨b, i1, h1, e1, p1⟩ := once_some l hl i h 15 h0
  rw [e1]
  simp only [Option.bind_some]
  cases b with
  | true =>
    obtain ⟨r, i2, h2, e2, p2, _⟩ := pick_some l hl i1 h1 [-5, 5, 100, -9223372036854775808] p1 (by simp)
    rw [if_pos rfl, e2]
    exact ⟨_, _, _, rfl, p2⟩
  | false =>
    obtain ⟨r, i2, h2, e2, p2, _⟩ := below_some l hl i1 h1 9 p1
    rw [if_neg (by decide), e2]
    exact ⟨_, _, _, rfl, p2⟩
theorem in_eq (a b c : Int) : impl_in.f a b c = some (decide (b ≤ a ∧ a ≤ c)) := by
  unfold impl_in.f
  by_cases h : a ≥ b
  · rw [if_pos h]; simp [show b ≤ a from h]
  · rw [if_neg h]; simp; omega
theorem sin_eq (a b c : Int) : spec_l1In.f a b c = some (decide (b ≤ a ∧ a ≤ c)) := by
  unfold spec_l1In.f
  by_cases h : a ≥ b
  · rw [if_pos h]; simp [show b ≤ a from h]
  · rw [if_neg h]; simp; omega
theorem nice_eq (a : Int) : impl_NiceOk.f a = some (decide (-4 ≤ a ∧ a ≤ 4)) := by
  unfold impl_NiceOk.f
  rw [in_eq]
  rfl
theorem snice_eq (a : Int) : spec_NiceOk.f a = some (decide (-4 ≤ a ∧ a ≤ 4)) := by
  unfold spec_NiceOk.f
  rw [sin_eq]
  rfl
def weightOf (a : Int) : Int := if a = -4 then 24 else if a = -3 then 16 else if a = -2 then 12 else if a = -1 then 8 else if a = 0 then 6 else if a = 1 then 4 else if a = 2 then 3 else if a = 3 then 2 else if a = 4 then 1 else 0
theorem nine {P : Int → Prop} (h : P (-4)) (h1 : P (-3)) (h2 : P (-2)) (h3 : P (-1)) (h4 : P 0) (h5 : P 1) (h6 : P 2) (h7 : P 3) (h8 : P 4) (a : Int) (h0 : -4 ≤ a ∧ a ≤ 4) : P a := by
  obtain rfl | rfl | rfl | rfl | rfl | rfl | rfl | rfl | rfl : a = -4 ∨ a = -3 ∨ a = -2 ∨ a = -1 ∨ a = 0 ∨ a = 1 ∨ a = 2 ∨ a = 3 ∨ a = 4 := by omega
  all_goals assumption
theorem weight_none (a : Int) (h : ¬ (-4 ≤ a ∧ a ≤ 4)) : weightOf a = 0 := by
  unfold weightOf
  iterate 9 rw [if_neg (by omega)]
theorem weight_eq (a : Int) : impl_WeightOf.f a = some (weightOf a) := by
  by_cases h : -4 ≤ a ∧ a ≤ 4
  · refine nine (P := fun a => impl_WeightOf.f a = some (weightOf a)) ?_ ?_ ?_ ?_ ?_ ?_ ?_ ?_ ?_ a h <;> decide +kernel
  · unfold impl_WeightOf.f
    simp only [nice_eq, h, Option.bind_some, decide_false, Bool.false_eq_true, if_false, weight_none a h]
theorem sweight_eq (a : Int) : spec_WeightOf.f a = some (weightOf a) := by
  by_cases h : -4 ≤ a ∧ a ≤ 4
  · refine nine (P := fun a => spec_WeightOf.f a = some (weightOf a)) ?_ ?_ ?_ ?_ ?_ ?_ ?_ ?_ ?_ a h <;> decide +kernel
  · unfold spec_WeightOf.f
    simp only [snice_eq, h, Option.bind_some, decide_false, Bool.false_eq_true, if_false, weight_none a h]
theorem rd_at (l : List Int) (i : Nat) (h : i < l.length) : rd l (i : Int) = l[i] := by
  unfold rd
  rw [Int.toNat_natCast, List.getD_eq_getElem?_getD, List.getElem?_eq_getElem h, Option.getD_some]
theorem set_step {α : Type} (l : List α) (d : α) (i : Nat) (h : i < l.length) : (l.take i ++ List.replicate (l.length - i) d).set i l[i] = l.take (i + 1) ++ List.replicate (l.length - (i + 1)) d := by
  have hl : (l.take i).length = i := by rw [List.length_take]; omega
  rw [List.set_append_right _ _ (by omega), hl, Nat.sub_self, show l.length - i = (l.length - (i + 1)) + 1 by omega, List.replicate_succ, List.set_cons_zero, List.take_succ_eq_append_getElem h, List.append_assoc]
  rfl
theorem full {α : Type} (l : List α) (d : α) (i : Nat) (h : l.length ≤ i) : l.take i ++ List.replicate (l.length - i) d = l := by
  rw [List.take_of_length_le h, show l.length - i = 0 by omega, List.replicate_zero, List.append_nil]
def partOf (w : Int) : List Int → Int → Int × Int × Bool
  | [], s => (w, s, true)
  | n :: r, s => if -4 ≤ n ∧ n ≤ 4 then partOf w r (wrap64 (s + weightOf n)) else (0, 0, false)
theorem iPart_loop (a : Int) (l : List Int) (hl : l.length ≤ maxLen) (d : Nat) : ∀ (k i : Nat) (s : Int), l.length - i ≤ d → d < k → impl_PartOf.l0 k a s l (l.length : Int) (i : Int) = some (partOf (weightOf a) (l.drop i) s) := by
  unfold maxLen at hl
  induction d with
  | zero =>
    intro k i s hd hk
    obtain ⟨k, rfl⟩ : ∃ m, k = m + 1 := ⟨k - 1, by omega⟩
    simp only [impl_PartOf.l0]
    rw [if_neg (by omega), List.drop_eq_nil_of_le (by omega), weight_eq]
    rfl
  | succ d ih =>
    intro k i s hd hk
    obtain ⟨k, rfl⟩ : ∃ m, k = m + 1 := ⟨k - 1, by omega⟩
    simp only [impl_PartOf.l0]
    by_cases h : i < l.length
    · rw [if_pos (by omega), if_pos (by omega), if_pos (by omega), rd_at l i h, nice_eq, weight_eq, List.drop_eq_getElem_cons h, partOf, wr (↑i + 1) (by omega) (by omega)]
      simp only [Option.bind_some, decide_eq_true_eq]
      split
      · exact ih k (i + 1) _ (by omega) (by omega)
      · rfl
    · rw [if_neg (by omega), List.drop_eq_nil_of_le (by omega), weight_eq]
      rfl
theorem sPart_loop (a : Int) (l : List Int) (hl : l.length ≤ maxLen) (d : Nat) : ∀ (k i : Nat) (s : Int), l.length - i ≤ d → d < k → spec_PartOf.l0 k a l s (i : Int) = some (partOf (weightOf a) (l.drop i) s) := by
  unfold maxLen at hl
  induction d with
  | zero =>
    intro k i s hd hk
    obtain ⟨k, rfl⟩ : ∃ m, k = m + 1 := ⟨k - 1, by omega⟩
    simp only [spec_PartOf.l0]
    rw [if_neg (by omega), List.drop_eq_nil_of_le (by omega), sweight_eq]
    rfl
  | succ d ih =>
    intro k i s hd hk
    obtain ⟨k, rfl⟩ : ∃ m, k = m + 1 := ⟨k - 1, by omega⟩
    simp only [spec_PartOf.l0]
    by_cases h : i < l.length
    · rw [if_pos (by omega), if_pos (by omega), rd_at l i h, snice_eq, sweight_eq, List.drop_eq_getElem_cons h, partOf, wr (↑i + 1) (by omega) (by omega)]
      simp only [Option.bind_some, decide_eq_true_eq]
      split
      · exact ih k (i + 1) _ (by omega) (by omega)
      · rfl
    · rw [if_neg (by omega), List.drop_eq_nil_of_le (by omega), sweight_eq]
      rfl
def part (a : Int) (l : List Int) : Int × Int × Bool := if -4 ≤ a ∧ a ≤ 4 then partOf (weightOf a) l (weightOf a) else (0, 0, false)
theorem iPart_ev (a : Int) (l : List Int) (hl : l.length ≤ maxLen) : Ev (fun k => impl_PartOf.f k a l) (part a l) := by
  refine Ev.of (fun k => impl_PartOf.mono a l k) (k := l.length + 1) ?_
  unfold impl_PartOf.f part
  rw [nice_eq, weight_eq]
  simp only [Option.bind_some, decide_eq_true_eq]
  split
  · exact iPart_loop a l hl l.length _ 0 _ (by omega) (by omega)
  · rfl
theorem sPart_ev (a : Int) (l : List Int) (hl : l.length ≤ maxLen) : Ev (fun k => spec_PartOf.f k a l) (part a l) := by
  refine Ev.of (fun k => spec_PartOf.mono a l k) (k := l.length + 1) ?_
  unfold spec_PartOf.f part
  rw [snice_eq, sweight_eq]
  simp only [Option.bind_some, decide_eq_true_eq]
  split
  · exact sPart_loop a l hl l.length _ 0 _ (by omega) (by omega)
  · rfl
def stepOf (a : Int) : Int := if a = -4 then 2 else if a = -3 then 3 else if a = -2 then 4 else if a = -1 then 6 else if a = 0 then 8 else if a = 1 then 12 else if a = 2 then 16 else if a = 3 then 24 else if a = 4 then 48 else 0
theorem step_none (a : Int) (h : ¬ (-4 ≤ a ∧ a ≤ 4)) : stepOf a = 0 := by
  unfold stepOf
  iterate 9 rw [if_neg (by omega)]
theorem step_eq (a : Int) : impl_StepOf.f a = some (stepOf a) := by
  by_cases h : -4 ≤ a ∧ a ≤ 4
  · refine nine (P := fun a => impl_StepOf.f a = some (stepOf a)) ?_ ?_ ?_ ?_ ?_ ?_ ?_ ?_ ?_ a h <;> decide +kernel
  · unfold impl_StepOf.f
    simp only [nice_eq, h, Option.bind_some, decide_false, Bool.false_eq_true, if_false, step_none a h]
theorem drawPart_loop (c : List Int) (hc : c.length ≤ maxLen) (x : Int) : ∀ (k i : Nat) (l : List Int) (p h : Int), 5 - i < k → i ≤ 5 → l.length = i → 0 ≤ p → ∃ l', spec_DrawPartOf.l0 k x l (i : Int) c p h = some (x, l') ∧ l'.length ≤ 5 := by
  intro k
  induction k with
  | zero => intro i l p h hk; omega
  | succ k ih =>
    intro i l p h hk hi hl hp
    simp only [spec_DrawPartOf.l0]
    obtain ⟨r, i1, h1, e1, p1, _, hr, _⟩ := below_some c hc p h 5 hp
    have hr := hr (by omega)
    rw [e1]
    simp only [Option.bind_some]
    by_cases hlt : (i : Int) < r
    · rw [if_pos hlt]
      obtain ⟨v, i2, h2, e2, p2⟩ := nice_some c hc i1 h1 p1
      rw [e2]
      simp only [Option.bind_some]
      rw [if_pos (by omega), wr _ (by omega) (by omega)]
      exact ih (i + 1) (l ++ [v]) i2 h2 (by omega) (by omega) (by rw [List.length_append, hl]; rfl) p2
    · rw [if_neg hlt]
      exact ⟨l, rfl, by omega⟩
theorem drawPart_ev (c : List Int) (hc : c.length ≤ maxLen) : ∃ x l, Ev (fun k => spec_DrawPartOf.f k c) (x, l) ∧ l.length ≤ 5 := by
  obtain ⟨h, e⟩ := new_ev c hc
  obtain ⟨x, i1, h1, e1, p1⟩ := nice_some c hc 0 h (by omega)
  obtain ⟨l, e2, hl⟩ := drawPart_loop c hc x 6 0 [] i1 h1 (by omega) (by omega) rfl p1
  refine ⟨x, l, ?_, hl⟩
  unfold spec_DrawPartOf.f
  refine Ev.bind e ?_
  simp only [e1, Option.bind_some]
  exact Ev.of (fun k => (spec_DrawPartOf.mono_l k) _ _ _ _ _ _) (k := 6) e2
theorem drawNiceOk_ev (c : List Int) (hc : c.length ≤ maxLen) : ∃ x, Ev (fun k => spec_DrawNiceOk.f k c) x := by
  obtain ⟨h, e⟩ := new_ev c hc
  obtain ⟨x, i1, h1, e1, p1⟩ := nice_some c hc 0 h (by omega)
  refine ⟨x, ?_⟩
  unfold spec_DrawNiceOk.f
  refine Ev.bind e ?_
  simp only [e1, Option.bind_some]
  exact Ev.now _
theorem weight_le (a : Int) : 0 ≤ weightOf a ∧ weightOf a ≤ 24 := by
  unfold weightOf
  repeat' split
  all_goals omega
def sumW : List Int → Int
  | [] => 0
  | a :: l => weightOf a + sumW l
theorem sumW_le (l : List Int) : 0 ≤ sumW l ∧ sumW l ≤ 24 * l.length := by
  induction l with
  | nil => exact ⟨Int.le_refl _, by simp [sumW]⟩
  | cons a l ih =>
    have := weight_le a
    simp only [sumW, List.length_cons]
    omega
theorem partOf_sum (w : Int) : ∀ (l : List Int) (s : Int), 0 ≤ s → s + 24 * l.length ≤ 1000 → partOf w l s = (w, s + sumW l, true) ∨ partOf w l s = (0, 0, false)
  | [], s, _, _ => .inl (by simp [partOf, sumW])
  | a :: l, s, h0, h1 => by
    have := weight_le a
    simp only [List.length_cons] at h1
    simp only [partOf, sumW]
    rw [wr _ (by omega) (by omega), ← Int.add_assoc]
    split
    · exact partOf_sum w l _ (by omega) (by omega)
    · exact .inr rfl
theorem lawW_loop (x : Int) (l : List Int) (hl : l.length ≤ 5) (a b : Int) : ∀ (k i : Nat) (s : Int), l.length - i < k → 0 ≤ s → s ≤ 24 * (i : Int) → laws_FnWeights.l0 k x l a b s (i : Int) = some (if a = weightOf x then b == wrap64 (a + (s + sumW (l.drop i))) else false) := by
  intro k
  induction k with
  | zero => intro i s h; omega
  | succ k ih =>
    intro i s h h0 h1
    simp only [laws_FnWeights.l0]
    by_cases hi : i < l.length
    · have := weight_le l[i]
      rw [if_pos (by omega), if_pos (by omega), rd_at l i hi, weight_eq]
      simp only [Option.bind_some]
      rw [wr _ (by omega) (by omega), wr _ (by omega) (by omega), List.drop_eq_getElem_cons hi, sumW, ← Int.add_assoc s]
      exact ih (i + 1) _ (by omega) (by omega) (by omega)
    · rw [if_neg (by omega), List.drop_eq_nil_of_le (by omega), weight_eq]
      simp only [Option.bind_some, sumW, Int.add_zero]
      split <;> rfl
theorem lawW_one (x : Int) (l : List Int) (hl : l.length ≤ 5) : Ev (fun k => laws_FnWeights.j1 k x l (part x l).1 (part x l).2.1 (part x l).2.2 false) true := by
  refine Ev.step (fun k => by simp only [laws_FnWeights.j1]; rfl) ?_
  refine evNeg (by decide) ?_
  have hw := weight_le x
  have hs := sumW_le l
  have hp : part x l = (weightOf x, weightOf x + sumW l, true) ∨ part x l = (0, 0, false) := by
    unfold part
    split
    · exact partOf_sum (weightOf x) l (weightOf x) (by omega) (by omega)
    · exact .inr rfl
  obtain hp | hp := hp <;> rw [hp]
  · refine evPos rfl ?_
    refine Ev.of (fun k => (laws_FnWeights.mono_l k).2.2 _ _ _ _ _ _) (k := l.length + 1) ?_
    have := lawW_loop x l hl (weightOf x) (weightOf x + sumW l) (l.length + 1) 0 0 (by omega) (by omega) (by omega)
    refine this.trans ?_
    rw [if_pos rfl, List.drop_zero, Int.zero_add, wr _ (by omega) (by omega)]
    simp
  · exact evNeg (by decide) (evPos rfl (Ev.now _))
theorem nine_w (y : Int) (h : -4 ≤ y ∧ y ≤ 4) : wrap64 (weightOf y * stepOf y) = 48 ∧ (y < 4 → ¬ weightOf y ≤ weightOf (wrap64 (y + 1)) ∧ decide (stepOf y ≥ stepOf (wrap64 (y + 1))) = false) := by
  refine nine (P := fun y => wrap64 (weightOf y * stepOf y) = 48 ∧ (y < 4 → ¬ weightOf y ≤ weightOf (wrap64 (y + 1)) ∧ decide (stepOf y ≥ stepOf (wrap64 (y + 1))) = false)) ?_ ?_ ?_ ?_ ?_ ?_ ?_ ?_ ?_ y h <;> decide +kernel
theorem lawW_two (c : List Int) (hc : c.length ≤ maxLen) (x : Int) (l : List Int) (hl : l.length ≤ 5) : Ev (fun k => laws_FnWeights.j0 k c x l (part x l).1 (part x l).2.1 (part x l).2.2 false) true := by
  refine Ev.step (fun k => by simp only [laws_FnWeights.j0]; rfl) ?_
  refine evNeg (by decide) ?_
  obtain ⟨y, hy⟩ := drawNiceOk_ev c hc
  refine Ev.bind hy ?_
  have one := lawW_one x l hl
  simp only [nice_eq, weight_eq, step_eq, Option.bind_some, decide_eq_true_eq]
  by_cases h : -4 ≤ y ∧ y ≤ 4
  · obtain ⟨h1, h2⟩ := nine_w y h
    refine evPos h (evPos h1 ?_)
    by_cases h4 : y < 4
    · obtain ⟨h5, h6⟩ := h2 h4
      refine evPos h4 (evNeg h5 ?_)
      rw [h6]
      exact one
    · exact evNeg h4 one
  · exact evNeg h one
theorem FnWeights : laws_FnWeights.Pure := by
  intro c hc _ _
  refine Ev.rounds (r := true) ?_
  unfold laws_FnWeights.f laws_big.f
  simp only [Option.bind_some, decide_eq_true_eq]
  by_cases hb : (c.length : Int) > 1048576
  · exact evPos hb (Ev.now _)
  · refine evNeg hb ?_
    obtain ⟨x, l, e, hl⟩ := drawPart_ev c hc
    have hl2 : l.length ≤ maxLen := by unfold maxLen; omega
    refine Ev.bind e (Ev.bind (iPart_ev x l hl2) (Ev.bind (sPart_ev x l hl2) ?_))
    refine evNeg (by simp) (evPos rfl (evPos rfl ?_))
    simp only [nice_eq, snice_eq, Option.bind_some, bne_self_eq_false]
    exact lawW_two c hc x l hl

end Go.Proofs.Ytnokdjkkgcpbdaa.Pure
