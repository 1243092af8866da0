/- The pure statement of FnGcd, over numbers and lists: the greatest common divisor of drawn numbers divides both, either way round. Conditions: those of the statement (the drawn bytes lie in memory). -/
import Derived.Test.YtbcpjbgcmkifiaaPrint9
set_option linter.unusedVariables false
set_option linter.unusedSimpArgs false
namespace Go.Proofs.Ytbcpjbgcmkifiaa.Pure
open Go.RowKit Go.Proofs.Ytbcpjbgcmkifiaa.Print Go.Proofs.YtbcpjbgcmkifiaaW.PrintWords Go.Proofs.YtbcpjbgcmkifiaaW.PrintLast Go.Proofs.YtbcpjbgcmkifiaaW.PrintMore Go.Proofs.Ytbcpjbgcmkifiaa.Base

theorem and255 (x : Int) : 0 ≤ Go.bits .and .i64 x 255 ∧ Go.bits .and .i64 x 255 ≤ 255 := by
  have e : Go.bits .and .i64 x 255 = IntKind.i64.wrap (((BitVec.ofInt 64 x) &&& (BitVec.ofInt 64 255)).toNat : Nat) := rfl
  have h : ((BitVec.ofInt 64 x) &&& (BitVec.ofInt 64 255)).toNat ≤ 255 := by rw [BitVec.toNat_and]; exact Nat.and_le_right
  rw [e, IntKind.wrap_i64]
  omega

/-! The cursor over the drawn bytes: whatever it holds, a draw answers. -/
theorem new_loop (l : List Int) (hl : l.length ≤ maxLen) (d : Nat) : ∀ (k : Nat) (h i : Int), 0 ≤ i → (l.length : Int) - i ≤ d → d < k → ∃ h', spec_l1New.l0 k l h i = some (l, 0, h') := by
  unfold maxLen at hl
  induction d with
  | zero =>
    intro k h i h0 hd hk
    obtain ⟨k, rfl⟩ : ∃ m, k = m + 1 := ⟨k - 1, by omega⟩
    exact ⟨h, by simp only [spec_l1New.l0]; rw [if_neg (by omega)]⟩
  | succ d ih =>
    intro k h i h0 hd hk
    obtain ⟨k, rfl⟩ : ∃ m, k = m + 1 := ⟨k - 1, by omega⟩
    simp only [spec_l1New.l0]
    by_cases e : i < (l.length : Int)
    · rw [if_pos e]
      by_cases e2 : i < 4000
      · rw [if_pos e2, if_pos h0, wr (i + 1) (by omega) (by omega)]
        exact ih k _ _ (by omega) (by omega) (by omega)
      · rw [if_neg e2]
        exact ⟨_, rfl⟩
    · rw [if_neg e]
      exact ⟨_, rfl⟩
theorem new_ev (l : List Int) (hl : l.length ≤ maxLen) : ∃ h, Ev (fun k => spec_l1New.f k l) (l, 0, h) := by
  obtain ⟨h, e⟩ := new_loop l hl l.length (l.length + 1) (wrap64 (18511 + (l.length : Int))) 0 (by omega) (by omega) (by omega)
  exact ⟨h, Ev.of (fun k => spec_l1New.mono l k) e⟩
theorem byte_some (l : List Int) (hl : l.length ≤ maxLen) (i h : Int) (h0 : 0 ≤ i) : ∃ b i' h', spec_l1Byte.f l i h = some (b, i', h') ∧ 0 ≤ b ∧ b ≤ 255 ∧ 0 ≤ i' := by
  unfold maxLen at hl
  unfold spec_l1Byte.f
  by_cases e : i < (l.length : Int)
  · rw [if_pos e, if_pos h0, wr (i + 1) (by omega) (by omega)]
    exact ⟨_, _, _, rfl, (and255 _).1, (and255 _).2, by omega⟩
  · rw [if_neg e]
    exact ⟨_, _, _, rfl, (and255 _).1, (and255 _).2, by omega⟩
theorem below_some (l : List Int) (hl : l.length ≤ maxLen) (i h n : Int) (h0 : 0 ≤ i) : ∃ r i' h', spec_l1Below.f l i h n = some (r, i', h') ∧ 0 ≤ i' ∧ 0 ≤ r ∧ (0 < n → r < n) ∧ (n ≤ 0 → r = 0) := by
  unfold spec_l1Below.f
  by_cases e : n ≤ 0
  · rw [if_pos e]
    exact ⟨_, _, _, rfl, h0, by omega, by omega, by omega⟩
  · rw [if_neg e]
    obtain ⟨b, i1, h1, e1, b0, b1, p1⟩ := byte_some l hl i h h0
    by_cases e2 : n ≤ 256
    · rw [if_pos e2, e1]
      simp only [Option.bind_some]
      rw [if_neg (by omega)]
      have := Int.tmod_nonneg n b0
      have := Int.tmod_lt_of_pos b (show 0 < n by omega)
      exact ⟨_, _, _, rfl, p1, by omega, by omega, by omega⟩
    · rw [if_neg e2, e1]
      simp only [Option.bind_some]
      obtain ⟨c, i2, h2, e3, c0, c1, p2⟩ := byte_some l hl i1 h1 p1
      rw [e3]
      simp only [Option.bind_some]
      obtain ⟨d, i3, h3, e4, d0, d1, p3⟩ := byte_some l hl i2 h2 p2
      rw [e4]
      simp only [Option.bind_some]
      obtain ⟨f, i4, h4, e5, f0, f1, p4⟩ := byte_some l hl i3 h3 p3
      rw [e5]
      simp only [Option.bind_some]
      rw [if_neg (by omega), wr (b * 16777216) (by omega) (by omega), wr (c * 65536) (by omega) (by omega), wr (d * 256) (by omega) (by omega), wr (b * 16777216 + c * 65536) (by omega) (by omega), wr (b * 16777216 + c * 65536 + d * 256) (by omega) (by omega), wr (b * 16777216 + c * 65536 + d * 256 + f) (by omega) (by omega)]
      have := Int.tmod_nonneg n (show 0 ≤ b * 16777216 + c * 65536 + d * 256 + f by omega)
      have := Int.tmod_lt_of_pos (b * 16777216 + c * 65536 + d * 256 + f) (show 0 < n by omega)
      exact ⟨_, _, _, rfl, p4, by omega, by omega, by omega⟩
theorem pick_some (l : List Int) (hl : l.length ≤ maxLen) (i h : Int) (xs : List Int) (h0 : 0 ≤ i) (hx : 0 < xs.length) : ∃ r i' h', spec_l1PickInt.f l i h xs = some (r, i', h') ∧ 0 ≤ i' ∧ r ∈ xs := by
  unfold spec_l1PickInt.f
  obtain ⟨r, i1, h1, e, p1, r0, r1, _⟩ := below_some l hl i h (xs.length : Int) h0
  have r1 := r1 (by omega)
  rw [e]
  simp only [Option.bind_some]
  rw [if_pos r0, if_pos r1]
  refine ⟨_, _, _, rfl, p1, ?_⟩
  unfold rd
  rw [List.getD_eq_getElem?_getD, List.getElem?_eq_getElem (by omega), Option.getD_some]
  exact List.getElem_mem _
theorem in_eq (a b c : Int) : impl_in.f a b c = some (decide (b ≤ a ∧ a ≤ c)) := by
  unfold impl_in.f
  by_cases h : a ≥ b
  · rw [if_pos h]; simp [show b ≤ a from h]
  · rw [if_neg h]; simp; omega
theorem sin_eq (a b c : Int) : spec_l1In.f a b c = some (decide (b ≤ a ∧ a ≤ c)) := by
  unfold spec_l1In.f
  by_cases h : a ≥ b
  · rw [if_pos h]; simp [show b ≤ a from h]
  · rw [if_neg h]; simp; omega
theorem gcd_step (x0 x1 : Int) (h : x1 ≠ 0) : Int.gcd x1 (Int.tmod x0 x1) = Int.gcd x0 x1 := by
  unfold Int.gcd
  rw [Int.natAbs_tmod, Nat.gcd_comm x0.natAbs, Nat.gcd_comm x1.natAbs (x0.natAbs % x1.natAbs), ← Nat.gcd_rec]

theorem impl_gcd_l0 (n : Nat) : ∀ (k : Nat) (x0 x1 : Int), x1.natAbs < n → n ≤ k → x0.natAbs ≤ 9223372036854775807 → x1.natAbs ≤ 9223372036854775807 → impl_gcd.l0 k x0 x1 = some ((Int.gcd x0 x1 : Nat) : Int) := by
  induction n with
  | zero => intro k x0 x1 h; omega
  | succ n ih =>
    intro k x0 x1 h hk h0 h1
    obtain ⟨k, rfl⟩ : ∃ m, k = m + 1 := ⟨k - 1, by omega⟩
    simp only [impl_gcd.l0]
    by_cases e : x1 = 0
    · subst e
      rw [if_pos rfl, Int.gcd_zero_right]
      congr 1
      unfold mx wrap64
      split <;> omega
    · rw [if_neg e]
      have hm : (Int.tmod x0 x1).natAbs < x1.natAbs := by rw [Int.natAbs_tmod]; exact Nat.mod_lt _ (by omega)
      rw [ih k x1 _ (by omega) (by omega) h1 (by omega), gcd_step _ _ e]

theorem spec_gcd_l0 (n : Nat) : ∀ (k : Nat) (x0 x1 : Int), x1.natAbs < n → n ≤ k → 0 ≤ x0 → 0 ≤ x1 → spec_l1Gcd.l0 k x0 x1 = some ((Int.gcd x0 x1 : Nat) : Int) := by
  induction n with
  | zero => intro k x0 x1 h; omega
  | succ n ih =>
    intro k x0 x1 h hk h0 h1
    obtain ⟨k, rfl⟩ : ∃ m, k = m + 1 := ⟨k - 1, by omega⟩
    simp only [spec_l1Gcd.l0]
    by_cases e : x1 = 0
    · subst e
      rw [if_neg (by omega), Int.gcd_zero_right]
      congr 1
      omega
    · rw [if_pos (by omega), if_neg e]
      have hm : (Int.tmod x0 x1).natAbs < x1.natAbs := by rw [Int.natAbs_tmod]; exact Nat.mod_lt _ (by omega)
      have hn : 0 ≤ Int.tmod x0 x1 := Int.tmod_nonneg _ h0
      rw [ih k x1 _ (by omega) (by omega) h1 hn, gcd_step _ _ e]
theorem gcd_div (a b : Int) (h : Int.gcd a b ≠ 0) : Int.gcd (Int.tdiv a (Int.gcd a b)) (Int.tdiv b (Int.gcd a b)) = 1 := by
  have ha : ((Int.gcd a b : Nat) : Int) ∣ a := Int.gcd_dvd_left ..
  have hb : ((Int.gcd a b : Nat) : Int) ∣ b := Int.gcd_dvd_right ..
  unfold Int.gcd
  rw [Int.natAbs_tdiv, Int.natAbs_tdiv]
  simp only [Int.natAbs_natCast]
  show Nat.gcd (a.natAbs / Nat.gcd a.natAbs b.natAbs) (b.natAbs / Nat.gcd a.natAbs b.natAbs) = 1
  rw [Nat.gcd_div (Nat.gcd_dvd_left _ _) (Nat.gcd_dvd_right _ _)]
  exact Nat.div_self (by unfold Int.gcd at h; omega)
def gcdOf (a b : Int) : Int := if (-1000000 ≤ a ∧ a ≤ 1000000) ∧ (-1000000 ≤ b ∧ b ≤ 1000000) then ((Int.gcd a b : Nat) : Int) else 0
theorem iGcd_ev (a b : Int) : Ev (fun k => impl_Gcd.f k a b) (gcdOf a b) := by
  unfold impl_Gcd.f gcdOf
  simp only [in_eq, Option.bind_some]
  by_cases ha : -1000000 ≤ a ∧ a ≤ 1000000
  · by_cases hb : -1000000 ≤ b ∧ b ≤ 1000000
    · simp only [ha, hb, and_self, decide_true, if_true]
      refine Ev.bind (a := ((Int.gcd a b : Nat) : Int)) ?_ (Ev.now _)
      refine Ev.of (fun k => impl_gcd.mono a b k) (k := b.natAbs + 1) ?_
      exact impl_gcd_l0 (b.natAbs + 1) _ a b (by omega) (by omega) (by omega) (by omega)
    · simp only [ha, hb, decide_false, and_false, if_false]
      exact Ev.now _
  · simp only [ha, decide_false, false_and, if_false]
    exact Ev.now _
theorem sMax_eq (a b : Int) : spec_l1Max.f a b = some (max a b) := by
  unfold spec_l1Max.f
  split <;> congr 1 <;> omega
theorem sGcd_ev (a b : Int) : Ev (fun k => spec_Gcd.f k a b) (gcdOf a b) := by
  unfold spec_Gcd.f gcdOf
  simp only [sin_eq, Option.bind_some]
  by_cases ha : -1000000 ≤ a ∧ a ≤ 1000000
  · by_cases hb : -1000000 ≤ b ∧ b ≤ 1000000
    · simp only [ha, hb, and_self, decide_true, if_true, Bool.not_true]
      refine Ev.step (fun k => by simp only [spec_Gcd.j0]; rfl) ?_
      simp only [sMax_eq, Option.bind_some, Bool.false_eq_true, if_false, wr (-a) (by omega) (by omega), wr (-b) (by omega) (by omega)]
      refine Ev.bind (a := ((Int.gcd a b : Nat) : Int)) ?_ (Ev.now _)
      refine Ev.of (fun k => spec_l1Gcd.mono _ _ k) (k := b.natAbs + 1) ?_
      have := spec_gcd_l0 (b.natAbs + 1) (b.natAbs + 1) (max a (-a)) (max b (-b)) (by omega) (by omega) (by omega) (by omega)
      unfold spec_l1Gcd.f
      rw [this]
      unfold Int.gcd
      rw [show (max a (-a)).natAbs = a.natAbs by omega, show (max b (-b)).natAbs = b.natAbs by omega]
    · simp only [ha, hb, decide_false, and_false, if_false, Bool.not_false]
      refine Ev.step (fun k => by simp only [spec_Gcd.j0]; rfl) ?_
      exact Ev.now _
  · simp only [ha, decide_false, false_and, if_false]
    refine Ev.step (fun k => by simp only [spec_Gcd.j0]; rfl) ?_
    exact Ev.now _
theorem draw_ev (l : List Int) (hl : l.length ≤ maxLen) : ∃ a b, Ev (fun k => spec_DrawGcd.f k l) (a, b) := by
  obtain ⟨h, e⟩ := new_ev l hl
  obtain ⟨r, i1, h1, e1, p1, _⟩ := below_some l hl 0 h 500 (by omega)
  obtain ⟨a, i2, h2, e2, p2, _⟩ := pick_some l hl i1 h1 [0, 12, 18, (-30), 7, 1000000, 1000001, r] p1 (by simp)
  obtain ⟨s, i3, h3, e3, p3, _⟩ := below_some l hl i2 h2 500 p2
  obtain ⟨b, i4, h4, e4, p4, _⟩ := pick_some l hl i3 h3 [0, 12, 18, (-30), 7, (-1000000), (-1000001), s] p3 (by simp)
  refine ⟨a, b, ?_⟩
  unfold spec_DrawGcd.f
  refine Ev.bind e ?_
  simp only [e1, e2, e3, e4, Option.bind_some]
  exact Ev.now _
theorem gcdOf_comm (a b : Int) : gcdOf a b = gcdOf b a := by
  unfold gcdOf
  rw [Int.gcd_comm]
  by_cases h : (-1000000 ≤ a ∧ a ≤ 1000000) ∧ (-1000000 ≤ b ∧ b ≤ 1000000)
  · rw [if_pos h, if_pos ⟨h.2, h.1⟩]
  · rw [if_neg h, if_neg (fun g => h ⟨g.2, g.1⟩)]
theorem gcdOf_nonneg (a b : Int) : 0 ≤ gcdOf a b := by
  unfold gcdOf
  split <;> omega
theorem last_ev (a b : Int) : Ev (fun k => laws_FnGcd.j0 k a b (gcdOf a b) false) true := by
  refine Ev.step (fun k => by simp only [laws_FnGcd.j0]; rfl) ?_
  refine evNeg (by simp) ?_
  by_cases h : (-1000000 ≤ a ∧ a ≤ 1000000) ∧ (-1000000 ≤ b ∧ b ≤ 1000000)
  · have e : gcdOf a b = ((Int.gcd a b : Nat) : Int) := if_pos h
    rw [e]
    by_cases z : Int.gcd a b = 0
    · obtain ⟨ha, hb⟩ := Int.gcd_eq_zero_iff.1 z
      exact evPos (by omega) (evPos ha (evPos hb (Ev.now _)))
    · have da : ((Int.gcd a b : Nat) : Int) ∣ a := Int.gcd_dvd_left ..
      have db : ((Int.gcd a b : Nat) : Int) ∣ b := Int.gcd_dvd_right ..
      have la : (Int.tdiv a (Int.gcd a b)).natAbs ≤ a.natAbs := by rw [Int.natAbs_tdiv]; exact Nat.div_le_self _ _
      have lb : (Int.tdiv b (Int.gcd a b)).natAbs ≤ b.natAbs := by rw [Int.natAbs_tdiv]; exact Nat.div_le_self _ _
      refine evNeg (by omega) (evPos (Int.tmod_eq_zero_of_dvd da) (evPos (Int.tmod_eq_zero_of_dvd db) ?_))
      rw [wr (Int.tdiv a (Int.gcd a b)) (by omega) (by omega), wr (Int.tdiv b (Int.gcd a b)) (by omega) (by omega)]
      refine Ev.bind (iGcd_ev _ _) ?_
      have : gcdOf (Int.tdiv a (Int.gcd a b)) (Int.tdiv b (Int.gcd a b)) = 1 := by
        unfold gcdOf
        rw [if_pos (by omega), gcd_div a b z]
        rfl
      rw [this]
      exact Ev.now _
  · have e : gcdOf a b = 0 := if_neg h
    rw [e]
    refine evPos rfl ?_
    refine evEq _ (fun k => rfl) ?_
    repeat' split
    all_goals first | rfl | (congr 1; exact decide_eq_true (by omega)) | (exfalso; omega)
theorem FnGcd : laws_FnGcd.Pure := by
  intro l hl _ _
  refine Ev.rounds (r := true) ?_
  unfold laws_FnGcd.f laws_big.f
  simp only [Option.bind_some]
  by_cases hb : (l.length : Int) > 1048576
  · simp only [hb, decide_true, if_true]
    exact Ev.now _
  · simp only [hb, decide_false, Bool.false_eq_true, if_false]
    obtain ⟨a, b, e⟩ := draw_ev l hl
    refine Ev.bind e ?_
    refine Ev.bind (iGcd_ev a b) ?_
    refine Ev.bind (sGcd_ev a b) ?_
    simp only [if_true]
    refine Ev.bind (iGcd_ev b a) ?_
    have c := gcdOf_comm a b
    have n := gcdOf_nonneg a b
    simp only [← c, if_true]
    rw [decide_eq_false (by omega)]
    exact last_ev a b

end Go.Proofs.Ytbcpjbgcmkifiaa.Pure
