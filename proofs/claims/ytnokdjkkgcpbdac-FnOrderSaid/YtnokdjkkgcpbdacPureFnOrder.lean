/- The pure statement of FnOrder, over numbers and lists: drawn parts of time are in one order only; none is less than itself; the lesser one fits where the greater one does. Conditions: those of the statement (the drawn bytes lie in memory). -/
import Derived.Test.YtnokdjkkgcpbdacPrintLawsFnOrder
set_option linter.unusedVariables false
set_option linter.unusedSimpArgs false
namespace Go.Proofs.Ytnokdjkkgcpbdac.Pure
open Go.RowKit Go.Proofs.Ytnokdjkkgcpbdac.Print Go.Proofs.YtnokdjkkgcpbdacW.PrintWords Go.Proofs.YtnokdjkkgcpbdacW.PrintLast Go.Proofs.YtnokdjkkgcpbdacW.PrintMore Go.Proofs.Ytnokdjkkgcpbdac.Base

/-! A draw answers, and with what. -/
def En {α : Type} (f : Nat → Option α) (Q : α → Prop) : Prop := ∃ r, Ev f r ∧ Q r
theorem En.bind {α β : Type} {f : Nat → Option α} {P : α → Prop} {g : α → Nat → Option β} {Q : β → Prop} (h : En f P) (hg : ∀ r, P r → En (fun k => g r k) Q) : En (fun k => (f k).bind (fun r => g r k)) Q := by
  obtain ⟨r, e, p⟩ := h
  obtain ⟨s, e2, q⟩ := hg r p
  exact ⟨s, Ev.bind e e2, q⟩
theorem En.now {α : Type} {r : α} {Q : α → Prop} (h : Q r) : En (fun _ => some r) Q := ⟨r, Ev.now r, h⟩
theorem En.ite {α : Type} {c : Prop} [Decidable c] {f g : Nat → Option α} {Q : α → Prop} (h : c → En f Q) (h' : ¬ c → En g Q) : En (fun k => if c then f k else g k) Q := by
  by_cases hc : c
  · obtain ⟨r, e, q⟩ := h hc
    exact ⟨r, evPos hc e, q⟩
  · obtain ⟨r, e, q⟩ := h' hc
    exact ⟨r, evNeg hc e, q⟩
theorem En.of {α : Type} {o : Option α} {P : α → Prop} (h : ∃ r, o = some r ∧ P r) : En (fun _ => o) P := by
  obtain ⟨r, e, p⟩ := h
  exact ⟨r, ⟨0, fun _ _ => e⟩, p⟩
theorem and255 (x : Int) : 0 ≤ Go.bits .and .i64 x 255 ∧ Go.bits .and .i64 x 255 ≤ 255 := by
  have e : Go.bits .and .i64 x 255 = IntKind.i64.wrap (((BitVec.ofInt 64 x) &&& (BitVec.ofInt 64 255)).toNat : Nat) := rfl
  have h : ((BitVec.ofInt 64 x) &&& (BitVec.ofInt 64 255)).toNat ≤ 255 := by rw [BitVec.toNat_and]; exact Nat.and_le_right
  rw [e, IntKind.wrap_i64]
  omega
theorem byte_some (l : List Int) (hl : l.length ≤ maxLen) (i h : Int) (h0 : 0 ≤ i) : ∃ b i' h', spec_l1Byte.f l i h = some (b, i', h') ∧ 0 ≤ b ∧ b ≤ 255 ∧ 0 ≤ i' := by
  unfold maxLen at hl
  unfold spec_l1Byte.f
  by_cases e : i < (l.length : Int)
  · rw [if_pos e, if_pos h0, wr (i + 1) (by omega) (by omega)]
    exact ⟨_, _, _, rfl, (and255 _).1, (and255 _).2, by omega⟩
  · rw [if_neg e]
    exact ⟨_, _, _, rfl, (and255 _).1, (and255 _).2, by omega⟩
theorem below_some (l : List Int) (hl : l.length ≤ maxLen) (i h n : Int) (h0 : 0 ≤ i) : ∃ r i' h', spec_l1Below.f l i h n = some (r, i', h') ∧ 0 ≤ i' ∧ 0 ≤ r ∧ (0 < n → r < n) ∧ (n ≤ 0 → r = 0) := by
  unfold spec_l1Below.f
  by_cases e : n ≤ 0
  · rw [if_pos e]
    exact ⟨_, _, _, rfl, h0, by omega, by omega, by omega⟩
  · rw [if_neg e]
    obtain ⟨b, i1, h1, e1, b0, b1, p1⟩ := byte_some l hl i h h0
    by_cases e2 : n ≤ 256
    · rw [if_pos e2, e1]
      simp only [Option.bind_some]
      rw [if_neg (by omega)]
      have := Int.tmod_nonneg n b0
      have := Int.tmod_lt_of_pos b (show 0 < n by omega)
      exact ⟨_, _, _, rfl, p1, by omega, by omega, by omega⟩
    · rw [if_neg e2, e1]
      simp only [Option.bind_some]
      obtain ⟨c, i2, h2, e3, c0, c1, p2⟩ := byte_some l hl i1 h1 p1
      rw [e3]
      simp only [Option.bind_some]
      obtain ⟨d, i3, h3, e4, d0, d1, p3⟩ := byte_some l hl i2 h2 p2
      rw [e4]
      simp only [Option.bind_some]
      obtain ⟨f, i4, h4, e5, f0, f1, p4⟩ := byte_some l hl i3 h3 p3
      rw [e5]
      simp only [Option.bind_some]
      rw [if_neg (by omega), wr (b * 16777216) (by omega) (by omega), wr (c * 65536) (by omega) (by omega), wr (d * 256) (by omega) (by omega), wr (b * 16777216 + c * 65536) (by omega) (by omega), wr (b * 16777216 + c * 65536 + d * 256) (by omega) (by omega), wr (b * 16777216 + c * 65536 + d * 256 + f) (by omega) (by omega)]
      have := Int.tmod_nonneg n (show 0 ≤ b * 16777216 + c * 65536 + d * 256 + f by omega)
      have := Int.tmod_lt_of_pos (b * 16777216 + c * 65536 + d * 256 + f) (show 0 < n by omega)
      exact ⟨_, _, _, rfl, p4, by omega, by omega, by omega⟩
theorem below_en (l : List Int) (hl : l.length ≤ maxLen) (i h n : Int) (h0 : 0 ≤ i) : En (fun _ => spec_l1Below.f l i h n) (fun r => 0 ≤ r.2.1) := by
  obtain ⟨r, i', h', e, p, _⟩ := below_some l hl i h n h0
  exact En.of ⟨_, e, p⟩
theorem max_some (a b : Int) : ∃ r, spec_l1Max.f a b = some r := by
  unfold spec_l1Max.f
  split <;> exact ⟨_, rfl⟩
theorem pick_some (l : List Int) (hl : l.length ≤ maxLen) (i h : Int) (xs : List Int) (h0 : 0 ≤ i) (hx : 0 < xs.length) : ∃ r i' h', spec_l1PickInt.f l i h xs = some (r, i', h') ∧ 0 ≤ i' ∧ r ∈ xs := by
  unfold spec_l1PickInt.f
  obtain ⟨r, i1, h1, e, p1, r0, r1, _⟩ := below_some l hl i h (xs.length : Int) h0
  have r1 := r1 (by omega)
  rw [e]
  simp only [Option.bind_some]
  rw [if_pos r0, if_pos r1]
  refine ⟨_, _, _, rfl, p1, ?_⟩
  unfold rd
  rw [List.getD_eq_getElem?_getD, List.getElem?_eq_getElem (by omega), Option.getD_some]
  exact List.getElem_mem _
theorem pick_en (l : List Int) (hl : l.length ≤ maxLen) (i h : Int) (x : Int) (xs : List Int) (h0 : 0 ≤ i) : En (fun _ => spec_l1PickInt.f l i h (x :: xs)) (fun r => 0 ≤ r.2.1) := by
  obtain ⟨r, i', h', e, p, _⟩ := pick_some l hl i h (x :: xs) h0 (by simp)
  exact En.of ⟨_, e, p⟩
theorem some_en {α : Type} {o : Option α} (h : ∃ r, o = some r) : En (fun _ => o) (fun _ => True) := by
  obtain ⟨r, e⟩ := h
  exact En.of ⟨r, e, trivial⟩
theorem drawShare_en (l : List Int) (hl : l.length ≤ maxLen) (i h : Int) (h0 : 0 ≤ i) : En (fun _ => spec_l1DrawShare.f l i h) (fun r => 0 ≤ r.2.2.1) := by
  unfold spec_l1DrawShare.f
  refine En.bind (pick_en l hl _ _ _ _ h0) (fun r1 h1 => ?_)
  refine En.bind (some_en (max_some _ _)) (fun r2 _ => ?_)
  refine En.bind (below_en l hl _ _ _ h1) (fun r3 h3 => ?_)
  refine En.bind (below_en l hl _ _ _ h3) (fun r4 h4 => ?_)
  refine En.ite (fun _ => ?_) (fun _ => En.ite (fun _ => ?_) (fun _ => En.now h4))
  · exact En.bind (pick_en l hl _ _ _ _ h4) (fun r5 h5 => En.now h5)
  · exact En.bind (pick_en l hl _ _ _ _ h4) (fun r5 h5 => En.now h5)
/-! The cursor over the drawn bytes: whatever it holds, a draw answers. -/
theorem new_loop (l : List Int) (hl : l.length ≤ maxLen) (d : Nat) : ∀ (k : Nat) (h i : Int), 0 ≤ i → (l.length : Int) - i ≤ d → d < k → ∃ h', spec_l1New.l0 k l h i = some (l, 0, h') := by
  unfold maxLen at hl
  induction d with
  | zero =>
    intro k h i h0 hd hk
    obtain ⟨k, rfl⟩ : ∃ m, k = m + 1 := ⟨k - 1, by omega⟩
    exact ⟨h, by simp only [spec_l1New.l0]; rw [if_neg (by omega)]⟩
  | succ d ih =>
    intro k h i h0 hd hk
    obtain ⟨k, rfl⟩ : ∃ m, k = m + 1 := ⟨k - 1, by omega⟩
    simp only [spec_l1New.l0]
    by_cases e : i < (l.length : Int)
    · rw [if_pos e]
      by_cases e2 : i < 4000
      · rw [if_pos e2, if_pos h0, wr (i + 1) (by omega) (by omega)]
        exact ih k _ _ (by omega) (by omega) (by omega)
      · rw [if_neg e2]
        exact ⟨_, rfl⟩
    · rw [if_neg e]
      exact ⟨_, rfl⟩
theorem new_ev (l : List Int) (hl : l.length ≤ maxLen) : ∃ h, Ev (fun k => spec_l1New.f k l) (l, 0, h) := by
  obtain ⟨h, e⟩ := new_loop l hl l.length (l.length + 1) (wrap64 (18511 + (l.length : Int))) 0 (by omega) (by omega) (by omega)
  exact ⟨h, Ev.of (fun k => spec_l1New.mono l k) e⟩
theorem new_en (l : List Int) (hl : l.length ≤ maxLen) : En (fun k => spec_l1New.f k l) (fun r => r.1 = l ∧ 0 ≤ r.2.1) := by
  obtain ⟨h, e⟩ := new_ev l hl
  exact ⟨_, e, rfl, Int.le_refl _⟩
theorem drawShareLess_en (l : List Int) (hl : l.length ≤ maxLen) : En (fun k => spec_DrawShareLess.f k l) (fun _ => True) := by
  unfold spec_DrawShareLess.f
  refine En.bind (new_en l hl) (fun r hr => ?_)
  rw [hr.1]
  refine En.bind (drawShare_en l hl _ _ hr.2) (fun s hs => ?_)
  exact En.bind (drawShare_en l hl _ _ hs) (fun t _ => En.now trivial)
theorem in_eq (a b c : Int) : impl_in.f a b c = some (decide (b ≤ a ∧ a ≤ c)) := by
  unfold impl_in.f
  by_cases h : a ≥ b
  · rw [if_pos h]; simp [show b ≤ a from h]
  · rw [if_neg h]; simp; omega
theorem share_eq (q p : Int) : impl_ShareOk.f q p = some (decide (ShareP q p)) := by
  unfold impl_ShareOk.f ShareP
  simp only [in_eq, Option.bind_some, decide_eq_true_eq]
  by_cases h : 1 ≤ p ∧ p ≤ 40
  · simp only [h, and_self, if_true, true_and]
  · simp only [h, if_false, false_and, decide_false]
theorem less_val (a b c d : Int) : impl_ShareLess.f a b c d = some (decide (ShareP a b ∧ ShareP c d ∧ wrap64 (a * d) < wrap64 (c * b))) := by
  unfold impl_ShareLess.f
  simp only [share_eq, Option.bind_some, decide_eq_true_eq]
  by_cases h : ShareP a b <;> by_cases g : ShareP c d <;> simp [h, g]
theorem at_some (l : List Int) (i : Int) (h0 : 0 ≤ i) : ∃ r, laws_at.f l i = some r := by
  unfold laws_at.f
  split
  · exact ⟨_, rfl⟩
  · repeat' split
    all_goals first | exact ⟨_, rfl⟩ | (exfalso; omega)
def fitsOf (r : Int × Int × Bool) : Bool := if r.2.2 = true then decide (r.1 ≤ r.2.1) else false
def SumInv (i : Nat) (n d : Int) : Prop := 1 ≤ d ∧ d ≤ (40 : Int) ^ i ∧ 0 ≤ n ∧ n ≤ (i : Int) * d
theorem gcd_step (x0 x1 : Int) (h : x1 ≠ 0) : Int.gcd x1 (Int.tmod x0 x1) = Int.gcd x0 x1 := by
  unfold Int.gcd
  rw [Int.natAbs_tmod, Nat.gcd_comm x0.natAbs, Nat.gcd_comm x1.natAbs (x0.natAbs % x1.natAbs), ← Nat.gcd_rec]
theorem impl_gcd_l0 (n : Nat) : ∀ (k : Nat) (x0 x1 : Int), x1.natAbs < n → n ≤ k → x0.natAbs ≤ 9223372036854775807 → x1.natAbs ≤ 9223372036854775807 → impl_gcd.l0 k x0 x1 = some ((Int.gcd x0 x1 : Nat) : Int) := by
  induction n with
  | zero => intro k x0 x1 h; omega
  | succ n ih =>
    intro k x0 x1 h hk h0 h1
    obtain ⟨k, rfl⟩ : ∃ m, k = m + 1 := ⟨k - 1, by omega⟩
    simp only [impl_gcd.l0]
    by_cases e : x1 = 0
    · subst e
      rw [if_pos rfl, Int.gcd_zero_right]
      congr 1
      unfold mx wrap64
      split <;> omega
    · rw [if_neg e]
      have hm : (Int.tmod x0 x1).natAbs < x1.natAbs := by rw [Int.natAbs_tmod]; exact Nat.mod_lt _ (by omega)
      rw [ih k x1 _ (by omega) (by omega) h1 (by omega), gcd_step _ _ e]
theorem igcd_ev (a b : Int) (ha : a.natAbs ≤ 9223372036854775807) (hb : b.natAbs ≤ 9223372036854775807) : Ev (fun k => impl_gcd.f k a b) ((Int.gcd a b : Nat) : Int) := by
  refine Ev.of (fun k => impl_gcd.mono a b k) (k := b.natAbs + 1) ?_
  unfold impl_gcd.f
  exact impl_gcd_l0 (b.natAbs + 1) _ a b (by omega) (Nat.le_refl _) ha hb
theorem rdH (l : List S50) (i : Nat) (h : i < l.length) : rd_T50 l (i : Int) = l[i] := by
  unfold rd_T50
  rw [Int.toNat_natCast, List.getD_eq_getElem?_getD, List.getElem?_eq_getElem h, Option.getD_some]
def stepD (n d q p : Int) : Int := Int.tdiv (d * p) (Int.gcd (n * p + q * d) (d * p))
/-! Fractions: one more share, shortened. -/
def stepN (n d q p : Int) : Int := Int.tdiv (n * p + q * d) (Int.gcd (n * p + q * d) (d * p))
theorem mul_cancel_le {a b g : Int} (hg : 1 ≤ g) (h : a * g ≤ b * g) : a ≤ b := by
  by_cases c : a ≤ b
  · exact c
  · exfalso
    have h1 : b + 1 ≤ a := by omega
    have h2 := Int.mul_le_mul_of_nonneg_right h1 (show 0 ≤ g by omega)
    rw [Int.add_mul, Int.one_mul] at h2
    omega
theorem pow40 (i : Nat) (h : i ≤ 7) : (1 : Int) ≤ (40 : Int) ^ i ∧ (40 : Int) ^ i ≤ 163840000000 := by
  match i, h with
  | 0, _ => decide
  | 1, _ => decide
  | 2, _ => decide
  | 3, _ => decide
  | 4, _ => decide
  | 5, _ => decide
  | 6, _ => decide
  | 7, _ => decide
/-- What one step comes to, and that nothing wraps. -/
theorem step_all (i : Nat) (hi : i < 7) (n d q p : Int) (h : SumInv i n d) (hs : ShareP q p) :
    wrap64 (wrap64 (n * p) + wrap64 (q * d)) = n * p + q * d ∧ wrap64 (d * p) = d * p ∧ 1 ≤ d * p ∧ 0 ≤ n * p + q * d ∧ d * p ≤ 163840000000 ∧ n * p + q * d ≤ 7 * 163840000000 ∧
    (1 : Int) ≤ (Int.gcd (n * p + q * d) (d * p) : Nat) ∧ stepN n d q p * (Int.gcd (n * p + q * d) (d * p) : Nat) = n * p + q * d ∧ stepD n d q p * (Int.gcd (n * p + q * d) (d * p) : Nat) = d * p ∧
    wrap64 (stepN n d q p) = stepN n d q p ∧ wrap64 (stepD n d q p) = stepD n d q p ∧ SumInv (i + 1) (stepN n d q p) (stepD n d q p) := by
  obtain ⟨h1, h2, h3, h4⟩ := h
  obtain ⟨⟨p1, p2⟩, q1, q2⟩ := hs
  have hb := pow40 i (by omega)
  have hb' := pow40 (i + 1) (by omega)
  have hpow : (40 : Int) ^ (i + 1) = (40 : Int) ^ i * 40 := Int.pow_succ ..
  have a1 : d * p ≤ (40 : Int) ^ i * 40 := by
    have x := Int.mul_le_mul_of_nonneg_left p2 (show 0 ≤ d by omega)
    have y := Int.mul_le_mul_of_nonneg_right h2 (show (0 : Int) ≤ 40 by omega)
    omega
  have a2 : 1 ≤ d * p := by
    have x := Int.mul_le_mul_of_nonneg_left p1 (show 0 ≤ d by omega)
    omega
  have a3 : 0 ≤ n * p := Int.mul_nonneg h3 (by omega)
  have a4 : n * p ≤ (i : Int) * (d * p) := by
    have x := Int.mul_le_mul_of_nonneg_right h4 (show 0 ≤ p by omega)
    rwa [Int.mul_assoc] at x
  have a5 : 0 ≤ q * d := Int.mul_nonneg (by omega) (by omega)
  have a6 : q * d ≤ d * p := by
    have x := Int.mul_le_mul_of_nonneg_right q2 (show 0 ≤ d by omega)
    rwa [Int.mul_comm p d] at x
  have a7 : (i : Int) * (d * p) + d * p = ((i + 1 : Nat) : Int) * (d * p) := by
    rw [show ((i + 1 : Nat) : Int) = (i : Int) + 1 by omega, Int.add_mul, Int.one_mul]
  have a8 : (i : Int) * (d * p) ≤ 6 * (d * p) := Int.mul_le_mul_of_nonneg_right (by omega) (by omega)
  unfold stepN stepD
  generalize hN : n * p + q * d = N
  generalize hD : d * p = D at *
  have b1 : 0 ≤ N := by omega
  have b2 : N ≤ ((i + 1 : Nat) : Int) * D := by omega
  have gN : ((Int.gcd N D : Nat) : Int) ∣ N := Int.gcd_dvd_left ..
  have gD : ((Int.gcd N D : Nat) : Int) ∣ D := Int.gcd_dvd_right ..
  have g0 : Int.gcd N D ≠ 0 := by
    intro e
    obtain ⟨_, e⟩ := Int.gcd_eq_zero_iff.1 e
    omega
  have eN := Int.tdiv_mul_cancel gN
  have eD := Int.tdiv_mul_cancel gD
  have hG : (1 : Int) ≤ ((Int.gcd N D : Nat) : Int) := by omega
  generalize ((Int.gcd N D : Nat) : Int) = G at *
  generalize Int.tdiv N G = N' at *
  generalize Int.tdiv D G = D' at *
  have c1 : 1 ≤ D' := by
    by_cases c : D' ≤ 0
    · exfalso
      have x := Int.mul_le_mul_of_nonneg_right c (show 0 ≤ G by omega)
      omega
    · omega
  have c2 : D' ≤ D := by
    have x := Int.mul_le_mul_of_nonneg_left hG (show 0 ≤ D' by omega)
    omega
  have c3 : 0 ≤ N' := by
    by_cases c : N' ≤ -1
    · exfalso
      have x := Int.mul_le_mul_of_nonneg_right c (show 0 ≤ G by omega)
      omega
    · omega
  have c4 : N' ≤ N := by
    have x := Int.mul_le_mul_of_nonneg_left hG c3
    omega
  have c5 : N' ≤ ((i + 1 : Nat) : Int) * D' := mul_cancel_le hG (by rw [eN, Int.mul_assoc, eD]; exact b2)
  have w1 : wrap64 (n * p) = n * p := wr _ (by omega) (by omega)
  have w2 : wrap64 (q * d) = q * d := wr _ (by omega) (by omega)
  refine ⟨by rw [w1, w2, hN]; exact wr _ (by omega) (by omega), wr _ (by omega) (by omega), a2, b1, by omega, by omega, hG, eN, eD, wr _ (by omega) (by omega), wr _ (by omega) (by omega), c1, ?_, c3, c5⟩
  omega
/-- The sum of a list's shares, from n by d on; the first that is not right ends it. -/
def sumFrom : List S50 → Int → Int → Int × Int × Bool
  | [], n, d => (n, d, true)
  | s :: r, n, d => if ShareP s.f0 s.f1 then sumFrom r (stepN n d s.f0 s.f1) (stepD n d s.f0 s.f1) else (0, 0, false)
theorem iSum_loop (l : List S50) (hl : l.length ≤ 7) (ha : ∀ (i : Nat) (h : i < l.length), ShareP (l[i]).f0 (l[i]).f1) : ∀ (m i : Nat) (n d : Int), l.length - i = m → i ≤ l.length → SumInv i n d → Ev (fun k => impl_SumOf.l0 k n d l (l.length : Int) (i : Int)) (sumFrom (l.drop i) n d) := by
  intro m
  induction m with
  | zero =>
    intro i n d hm hi h
    refine Ev.step (fun k => by simp only [impl_SumOf.l0]; rfl) ?_
    rw [List.drop_eq_nil_of_le (by omega), sumFrom]
    exact evNeg (by omega) (Ev.now _)
  | succ m ih =>
    intro i n d hm hi h
    have hlt : i < l.length := by omega
    refine Ev.step (fun k => by simp only [impl_SumOf.l0]; rfl) ?_
    refine evPos (by omega) (evPos (by omega) (evPos (by omega) ?_))
    rw [rdH l i hlt, List.drop_eq_getElem_cons hlt, sumFrom]
    have hs := ha i hlt
    rw [if_pos hs]
    obtain ⟨e1, e2, e3, e4, e5, e6, e7, e8, e9, e10, e11, e12⟩ := step_all i (by omega) n d _ _ h hs
    rw [e1, e2]
    refine Ev.bind (igcd_ev _ _ (by omega) (by omega)) ?_
    refine evNeg (by omega) ?_
    have r1 : wrap64 (Int.tdiv (n * (l[i]).f1 + (l[i]).f0 * d) (Int.gcd (n * (l[i]).f1 + (l[i]).f0 * d) (d * (l[i]).f1))) = stepN n d (l[i]).f0 (l[i]).f1 := e10
    have r2 : wrap64 (Int.tdiv (d * (l[i]).f1) (Int.gcd (n * (l[i]).f1 + (l[i]).f0 * d) (d * (l[i]).f1))) = stepD n d (l[i]).f0 (l[i]).f1 := e11
    rw [r1, r2, wr ((i : Int) + 1) (by omega) (by omega)]
    exact ih (i + 1) _ _ (by omega) (by omega) e12
theorem idxF_neg {α : Type} (p : α → Bool) : ∀ (l : List α) (i : Int), 0 ≤ i → (idxF p l i < 0 ↔ ∀ x ∈ l, p x = false)
  | [], i, _ => by simp [idxF]
  | x :: r, i, h => by
    have ih := idxF_neg p r (i + 1) (by omega)
    unfold idxF
    by_cases c : p x = true
    · rw [if_pos c]
      constructor
      · intro z; omega
      · intro z
        have := z x List.mem_cons_self
        rw [c] at this
        cases this
    · rw [if_neg c, ih]
      have c : p x = false := by simpa using c
      simp [c]
theorem sum_bad : ∀ (l : List S50) (n d : Int), (∃ x ∈ l, ¬ ShareP x.f0 x.f1) → sumFrom l n d = (0, 0, false)
  | [], n, d, h => by obtain ⟨x, hx, _⟩ := h; exact absurd hx List.not_mem_nil
  | s :: r, n, d, h => by
    unfold sumFrom
    by_cases c : ShareP s.f0 s.f1
    · rw [if_pos c]
      refine sum_bad r _ _ ?_
      obtain ⟨x, hx, hb⟩ := h
      rcases List.mem_cons.1 hx with rfl | hx
      · exact absurd c hb
      · exact ⟨x, hx, hb⟩
    · rw [if_neg c]
theorem iSum_ev (l : List S50) : Ev (fun k => impl_SumOf.f k l) (if (l.length : Int) > 7 then (0, 0, false) else sumFrom l 0 1) := by
  unfold impl_SumOf.f
  by_cases h : (l.length : Int) > 7
  · rw [if_pos h]
    refine evPos h ?_
    refine Ev.step (fun k => by simp only [impl_SumOf.j0]; rfl) ?_
    exact evPos trivial (Ev.now _)
  · rw [if_neg h]
    refine evNeg h ?_
    simp only [impl_Share_102.f, Option.bind_some]
    have hi := idxF_neg badShare l 0 (by omega)
    by_cases c : idxF badShare l 0 < 0
    · rw [show decide (0 ≤ idxF badShare l 0) = false from decide_eq_false (by omega)]
      refine Ev.step (fun k => by simp only [impl_SumOf.j0]; rfl) ?_
      refine evNeg (by decide) ?_
      refine iSum_loop l (by omega) (fun i hl => ?_) l.length 0 0 1 (by omega) (by omega) ⟨by omega, by decide, by omega, by omega⟩
      have := hi.1 c l[i] (List.getElem_mem hl)
      unfold badShare at this
      simpa using this
    · rw [show decide (0 ≤ idxF badShare l 0) = true from decide_eq_true (by omega)]
      refine Ev.step (fun k => by simp only [impl_SumOf.j0]; rfl) ?_
      refine evPos trivial ?_
      rw [sum_bad l 0 1]
      · exact Ev.now _
      · apply Classical.byContradiction
        intro hn
        refine c (hi.2 fun x hx => ?_)
        unfold badShare
        have : ShareP x.f0 x.f1 := Classical.byContradiction fun z => hn ⟨x, hx, z⟩
        simp [this]
theorem iFits_ev (l : List S50) : Ev (fun k => impl_Fits.f k l) (fitsOf (if (l.length : Int) > 7 then (0, 0, false) else sumFrom l 0 1)) := by
  unfold impl_Fits.f
  refine Ev.bind (iSum_ev l) (evEq _ (fun _ => rfl) ?_)
  generalize (if (l.length : Int) > 7 then (0, 0, false) else sumFrom l 0 1) = r
  unfold fitsOf
  by_cases h : r.2.2 = true <;> simp [h]
/-! The exact sum. -/
def den : List S50 → Int
  | [] => 1
  | s :: r => s.f1 * den r
def num : List S50 → Int
  | [] => 0
  | s :: r => s.f0 * den r + s.f1 * num r
theorem den_pos : ∀ (l : List S50), (∀ x ∈ l, ShareP x.f0 x.f1) → 1 ≤ den l ∧ 0 ≤ num l
  | [], _ => ⟨by simp [den], by simp [num]⟩
  | s :: r, h => by
    have ih := den_pos r (fun x hx => h x (List.mem_cons_of_mem _ hx))
    have hs := h s List.mem_cons_self
    obtain ⟨⟨p1, p2⟩, q1, q2⟩ := hs
    have a := Int.mul_le_mul_of_nonneg_left ih.1 (show 0 ≤ s.f1 by omega)
    have b := Int.mul_nonneg (show 0 ≤ s.f0 by omega) (show 0 ≤ den r by omega)
    have c := Int.mul_nonneg (show 0 ≤ s.f1 by omega) ih.2
    unfold den num
    omega
theorem gcd_div (a b : Int) (h : Int.gcd a b ≠ 0) : Int.gcd (Int.tdiv a (Int.gcd a b)) (Int.tdiv b (Int.gcd a b)) = 1 := by
  have ha : ((Int.gcd a b : Nat) : Int) ∣ a := Int.gcd_dvd_left ..
  have hb : ((Int.gcd a b : Nat) : Int) ∣ b := Int.gcd_dvd_right ..
  unfold Int.gcd
  rw [Int.natAbs_tdiv, Int.natAbs_tdiv]
  simp only [Int.natAbs_natCast]
  show Nat.gcd (a.natAbs / Nat.gcd a.natAbs b.natAbs) (b.natAbs / Nat.gcd a.natAbs b.natAbs) = 1
  rw [Nat.gcd_div (Nat.gcd_dvd_left _ _) (Nat.gcd_dvd_right _ _)]
  exact Nat.div_self (by unfold Int.gcd at h; omega)
theorem sum_all : ∀ (l : List S50) (i : Nat) (n d : Int), i + l.length ≤ 7 → SumInv i n d → Int.gcd n d = 1 → (∀ x ∈ l, ShareP x.f0 x.f1) →
    ∃ n' d', sumFrom l n d = (n', d', true) ∧ 1 ≤ d' ∧ 0 ≤ n' ∧ n' ≤ 1146880000000 ∧ d' ≤ 163840000000 ∧ Int.gcd n' d' = 1 ∧ n' * (d * den l) = d' * (n * den l + d * num l)
  | [], i, n, d, hi, h, hg, _ => by
    have hp := pow40 i (by simpa using hi)
    obtain ⟨h1, h2, h3, h4⟩ := h
    have x := Int.mul_le_mul_of_nonneg_right (show (i : Int) ≤ 7 by simp at hi; omega) (show 0 ≤ d by omega)
    refine ⟨n, d, rfl, h1, h3, by omega, by omega, hg, ?_⟩
    simp [den, num, Int.mul_comm]
  | s :: r, i, n, d, hi, h, hg, ha => by
    have hs := ha s List.mem_cons_self
    simp only [List.length_cons] at hi
    obtain ⟨e1, e2, e3, e4, e5, e6, e7, e8, e9, e10, e11, e12⟩ := step_all i (by omega) n d _ _ h hs
    have hg2 : Int.gcd (stepN n d s.f0 s.f1) (stepD n d s.f0 s.f1) = 1 := gcd_div _ _ (by omega)
    obtain ⟨n', d', f1, f2, f3, f4, f5, f6, f7⟩ := sum_all r (i + 1) _ _ (by omega) e12 hg2 (fun x hx => ha x (List.mem_cons_of_mem _ hx))
    refine ⟨n', d', by rw [sumFrom, if_pos hs]; exact f1, f2, f3, f4, f5, f6, ?_⟩
    generalize ((Int.gcd (n * s.f1 + s.f0 * d) (d * s.f1) : Nat) : Int) = G at *
    generalize stepN n d s.f0 s.f1 = n1 at *
    generalize stepD n d s.f0 s.f1 = d1 at *
    unfold den num
    generalize den r = Dr at *
    generalize num r = Nr at *
    generalize s.f0 = q at *
    generalize s.f1 = p at *
    have k1 : n' * (d1 * G * Dr) = d' * (n1 * G * Dr + d1 * G * Nr) := by grind
    rw [e8, e9] at k1
    grind
theorem sum_bad' (l : List S50) (h : ¬ ∀ x ∈ l, ShareP x.f0 x.f1) (n d : Int) : sumFrom l n d = (0, 0, false) := by
  refine sum_bad l n d ?_
  apply Classical.byContradiction
  intro hn
  exact h fun x hx => Classical.byContradiction fun z => hn ⟨x, hx, z⟩
/-- When a list fits: all right, at most seven, and the exact sum at most one. -/
theorem fits_iff (l : List S50) : fitsOf (if (l.length : Int) > 7 then (0, 0, false) else sumFrom l 0 1) = true ↔ (l.length ≤ 7 ∧ (∀ x ∈ l, ShareP x.f0 x.f1) ∧ num l ≤ den l) := by
  by_cases h7 : (l.length : Int) > 7
  · rw [if_pos h7]
    constructor
    · intro h; simp [fitsOf] at h
    · intro h; omega
  · rw [if_neg h7]
    by_cases ha : ∀ x ∈ l, ShareP x.f0 x.f1
    · obtain ⟨n', d', f1, f2, f3, f4, f5, f6, f7⟩ := sum_all l 0 0 1 (by omega) ⟨by omega, by decide, by omega, by omega⟩ (by decide) ha
      have hd := den_pos l ha
      rw [f1]
      simp only [fitsOf, if_true, decide_eq_true_eq]
      rw [Int.one_mul, Int.zero_mul, Int.one_mul, Int.zero_add] at f7
      constructor
      · intro h
        refine ⟨by omega, ha, ?_⟩
        have x := Int.mul_le_mul_of_nonneg_right h (show 0 ≤ den l by omega)
        refine mul_cancel_le f2 ?_
        rw [Int.mul_comm (num l), Int.mul_comm (den l)]
        omega
      · intro h
        refine mul_cancel_le hd.1 ?_
        have x := Int.mul_le_mul_of_nonneg_left h.2.2 (show 0 ≤ d' by omega)
        omega
    · rw [sum_bad' l ha]
      constructor
      · intro h; simp [fitsOf] at h
      · intro h; exact absurd h.2.1 ha
theorem order_fits (a b c d q p : Int) (h : ShareP a b) (g : ShareP c d) (hl : a * d < c * b) (f : fitsOf (if (([⟨c, d⟩, ⟨q, p⟩] : List S50).length : Int) > 7 then (0, 0, false) else sumFrom ([⟨c, d⟩, ⟨q, p⟩] : List S50) 0 1) = true) :
    fitsOf (if (([⟨a, b⟩, ⟨q, p⟩] : List S50).length : Int) > 7 then (0, 0, false) else sumFrom ([⟨a, b⟩, ⟨q, p⟩] : List S50) 0 1) = true := by
  obtain ⟨f1, f2, f3⟩ := (fits_iff _).1 f
  have hp : ShareP q p := f2 ⟨q, p⟩ (by simp)
  refine (fits_iff _).2 ⟨by simp, fun x hx => ?_, ?_⟩
  · simp only [List.mem_cons, List.not_mem_nil, or_false] at hx
    rcases hx with rfl | rfl
    · exact h
    · exact hp
  · simp only [num, den, Int.mul_one, Int.mul_zero, Int.add_zero] at f3 ⊢
    obtain ⟨⟨b1, b2⟩, a1, a2⟩ := h
    obtain ⟨⟨d1, d2⟩, c1, c2⟩ := g
    obtain ⟨⟨p1, p2⟩, q1, q2⟩ := hp
    refine mul_cancel_le d1 ?_
    have x := Int.mul_le_mul_of_nonneg_right (show a * d ≤ c * b by omega) (show 0 ≤ p by omega)
    have y := Int.mul_le_mul_of_nonneg_left f3 (show 0 ≤ b by omega)
    have e1 : (a * p + b * q) * d = a * d * p + b * q * d := by grind
    have e2 : b * (c * p + d * q) = c * b * p + b * q * d := by grind
    have e3 : b * (d * p) = b * p * d := by grind
    omega
theorem share_mul (a b c d : Int) (h : ShareP a b) (g : ShareP c d) : wrap64 (a * d) = a * d ∧ 0 ≤ a * d := by
  obtain ⟨⟨b1, b2⟩, a1, a2⟩ := h
  obtain ⟨⟨d1, d2⟩, c1, c2⟩ := g
  have x := Int.mul_le_mul_of_nonneg_right (show a ≤ 40 by omega) (show 0 ≤ d by omega)
  have y := Int.mul_nonneg (show 0 ≤ a by omega) (show 0 ≤ d by omega)
  exact ⟨wr _ (by omega) (by omega), y⟩
theorem orderOne (l : List Int) (a b c d : Int) : Ev (fun k => laws_FnOrder.j0 k l (decide (ShareP a b ∧ ShareP c d ∧ wrap64 (a * d) < wrap64 (c * b))) false a b c d) true := by
  refine Ev.step (fun k => by simp only [laws_FnOrder.j0]; rfl) ?_
  refine evNeg (by decide) ?_
  by_cases h : ShareP a b ∧ ShareP c d ∧ wrap64 (a * d) < wrap64 (c * b)
  · refine evPos (decide_eq_true h) ?_
    obtain ⟨h1, h2, h3⟩ := h
    obtain ⟨t, ht⟩ := at_some l 1 (by omega)
    rw [ht]
    simp only [Option.bind_some, share_eq, decide_eq_true_eq]
    refine evPos h1 (evPos h2 ?_)
    rw [(share_mul a b c d h1 h2).1, (share_mul c d a b h2 h1).1] at h3
    refine Ev.bind (iFits_ev _) ?_
    by_cases f : fitsOf (if (([⟨c, d⟩, ⟨1, wrap64 (2 + Int.tmod t 5)⟩] : List S50).length : Int) > 7 then (0, 0, false) else sumFrom ([⟨c, d⟩, ⟨1, wrap64 (2 + Int.tmod t 5)⟩] : List S50) 0 1) = true
    · refine evPos f (Ev.bind (iFits_ev _) ?_)
      have := order_fits a b c d 1 _ h1 h2 h3 f
      rw [this]
      exact Ev.now _
    · exact evNeg f (Ev.now _)
  · exact evNeg (by rw [decide_eq_true_eq]; exact h) (Ev.now _)
theorem sin_eq (a b c : Int) : spec_l1In.f a b c = some (decide (b ≤ a ∧ a ≤ c)) := by
  unfold spec_l1In.f
  by_cases h : a ≥ b
  · rw [if_pos h]; simp [show b ≤ a from h]
  · rw [if_neg h]; simp; omega
theorem sshare_eq (q p : Int) : spec_ShareOk.f q p = some (decide (ShareP q p)) := by
  unfold spec_ShareOk.f ShareP
  simp only [sin_eq, Option.bind_some, decide_eq_true_eq]
  by_cases h : 1 ≤ p ∧ p ≤ 40
  · simp only [h, and_self, if_true, true_and]
  · simp only [h, if_false, false_and, decide_false]
theorem sless_val (a b c d : Int) : spec_ShareLess.f a b c d = some (decide (ShareP a b ∧ ShareP c d ∧ wrap64 (a * d) < wrap64 (c * b))) := by
  unfold spec_ShareLess.f
  simp only [sshare_eq, Option.bind_some, decide_eq_true_eq]
  by_cases h : ShareP a b <;> by_cases g : ShareP c d <;> simp [h, g]
theorem FnOrder : laws_FnOrder.Pure := by
  intro l hl _ _
  refine Ev.rounds (r := true) ?_
  unfold laws_FnOrder.f laws_big.f
  simp only [Option.bind_some, decide_eq_true_eq]
  by_cases hb : (l.length : Int) > 1048576
  · exact evPos hb (Ev.now _)
  · refine evNeg hb ?_
    obtain ⟨⟨a, b, c, d⟩, e, _⟩ := drawShareLess_en l hl
    refine Ev.bind e ?_
    simp only [less_val, sless_val, share_eq, sshare_eq, Option.bind_some, bne_self_eq_false, decide_eq_true_eq]
    have one := orderOne l a b c d
    refine evNeg (by decide) ?_
    have self : ¬ (ShareP a b ∧ ShareP a b ∧ wrap64 (a * b) < wrap64 (a * b)) := by rintro ⟨_, _, z⟩; omega
    by_cases h : ShareP a b ∧ ShareP c d ∧ wrap64 (a * d) < wrap64 (c * b)
    · refine evPos h (evNeg (by rintro ⟨_, _, z⟩; have := h.2.2; omega) (evNeg self one))
    · exact evNeg h (evNeg self one)

end Go.Proofs.Ytnokdjkkgcpbdac.Pure
