/- The pure statement of FnShares, over numbers and lists: drawn parts of time fit just if their sum is at most one; with one less they fit, too. Conditions: those of the statement (the drawn bytes lie in memory). -/
import Derived.Test.YtnokdjkkgcpbdacPrintLawsFnShares
set_option linter.unusedVariables false
set_option linter.unusedSimpArgs false
namespace Go.Proofs.Ytnokdjkkgcpbdac.Pure
open Go.RowKit Go.Proofs.Ytnokdjkkgcpbdac.Print Go.Proofs.YtnokdjkkgcpbdacW.PrintWords Go.Proofs.YtnokdjkkgcpbdacW.PrintLast Go.Proofs.YtnokdjkkgcpbdacW.PrintMore Go.Proofs.Ytnokdjkkgcpbdac.Base

/-! A draw answers, and with what. -/
def En {α : Type} (f : Nat → Option α) (Q : α → Prop) : Prop := ∃ r, Ev f r ∧ Q r
theorem En.bind {α β : Type} {f : Nat → Option α} {P : α → Prop} {g : α → Nat → Option β} {Q : β → Prop} (h : En f P) (hg : ∀ r, P r → En (fun k => g r k) Q) : En (fun k => (f k).bind (fun r => g r k)) Q := by
  obtain ⟨r, e, p⟩ := h
  obtain ⟨s, e2, q⟩ := hg r p
  exact ⟨s, Ev.bind e e2, q⟩
theorem En.now {α : Type} {r : α} {Q : α → Prop} (h : Q r) : En (fun _ => some r) Q := ⟨r, Ev.now r, h⟩
theorem En.ite {α : Type} {c : Prop} [Decidable c] {f g : Nat → Option α} {Q : α → Prop} (h : c → En f Q) (h' : ¬ c → En g Q) : En (fun k => if c then f k else g k) Q := by
  by_cases hc : c
  · obtain ⟨r, e, q⟩ := h hc
    exact ⟨r, evPos hc e, q⟩
  · obtain ⟨r, e, q⟩ := h' hc
    exact ⟨r, evNeg hc e, q⟩
theorem En.step {α : Type} {f g : Nat → Option α} {Q : α → Prop} (h : ∀ k, f (k + 1) = g k) (e : En g Q) : En f Q := by
  obtain ⟨r, e, q⟩ := e
  exact ⟨r, Ev.step h e, q⟩
theorem and255 (x : Int) : 0 ≤ Go.bits .and .i64 x 255 ∧ Go.bits .and .i64 x 255 ≤ 255 := by
  have e : Go.bits .and .i64 x 255 = IntKind.i64.wrap (((BitVec.ofInt 64 x) &&& (BitVec.ofInt 64 255)).toNat : Nat) := rfl
  have h : ((BitVec.ofInt 64 x) &&& (BitVec.ofInt 64 255)).toNat ≤ 255 := by rw [BitVec.toNat_and]; exact Nat.and_le_right
  rw [e, IntKind.wrap_i64]
  omega
theorem byte_some (l : List Int) (hl : l.length ≤ maxLen) (i h : Int) (h0 : 0 ≤ i) : ∃ b i' h', spec_l1Byte.f l i h = some (b, i', h') ∧ 0 ≤ b ∧ b ≤ 255 ∧ 0 ≤ i' := by
  unfold maxLen at hl
  unfold spec_l1Byte.f
  by_cases e : i < (l.length : Int)
  · rw [if_pos e, if_pos h0, wr (i + 1) (by omega) (by omega)]
    exact ⟨_, _, _, rfl, (and255 _).1, (and255 _).2, by omega⟩
  · rw [if_neg e]
    exact ⟨_, _, _, rfl, (and255 _).1, (and255 _).2, by omega⟩
theorem below_some (l : List Int) (hl : l.length ≤ maxLen) (i h n : Int) (h0 : 0 ≤ i) : ∃ r i' h', spec_l1Below.f l i h n = some (r, i', h') ∧ 0 ≤ i' ∧ 0 ≤ r ∧ (0 < n → r < n) ∧ (n ≤ 0 → r = 0) := by
  unfold spec_l1Below.f
  by_cases e : n ≤ 0
  · rw [if_pos e]
    exact ⟨_, _, _, rfl, h0, by omega, by omega, by omega⟩
  · rw [if_neg e]
    obtain ⟨b, i1, h1, e1, b0, b1, p1⟩ := byte_some l hl i h h0
    by_cases e2 : n ≤ 256
    · rw [if_pos e2, e1]
      simp only [Option.bind_some]
      rw [if_neg (by omega)]
      have := Int.tmod_nonneg n b0
      have := Int.tmod_lt_of_pos b (show 0 < n by omega)
      exact ⟨_, _, _, rfl, p1, by omega, by omega, by omega⟩
    · rw [if_neg e2, e1]
      simp only [Option.bind_some]
      obtain ⟨c, i2, h2, e3, c0, c1, p2⟩ := byte_some l hl i1 h1 p1
      rw [e3]
      simp only [Option.bind_some]
      obtain ⟨d, i3, h3, e4, d0, d1, p3⟩ := byte_some l hl i2 h2 p2
      rw [e4]
      simp only [Option.bind_some]
      obtain ⟨f, i4, h4, e5, f0, f1, p4⟩ := byte_some l hl i3 h3 p3
      rw [e5]
      simp only [Option.bind_some]
      rw [if_neg (by omega), wr (b * 16777216) (by omega) (by omega), wr (c * 65536) (by omega) (by omega), wr (d * 256) (by omega) (by omega), wr (b * 16777216 + c * 65536) (by omega) (by omega), wr (b * 16777216 + c * 65536 + d * 256) (by omega) (by omega), wr (b * 16777216 + c * 65536 + d * 256 + f) (by omega) (by omega)]
      have := Int.tmod_nonneg n (show 0 ≤ b * 16777216 + c * 65536 + d * 256 + f by omega)
      have := Int.tmod_lt_of_pos (b * 16777216 + c * 65536 + d * 256 + f) (show 0 < n by omega)
      exact ⟨_, _, _, rfl, p4, by omega, by omega, by omega⟩
theorem En.of {α : Type} {o : Option α} {P : α → Prop} (h : ∃ r, o = some r ∧ P r) : En (fun _ => o) P := by
  obtain ⟨r, e, p⟩ := h
  exact ⟨r, ⟨0, fun _ _ => e⟩, p⟩
theorem below_en (l : List Int) (hl : l.length ≤ maxLen) (i h n : Int) (h0 : 0 ≤ i) : En (fun _ => spec_l1Below.f l i h n) (fun r => 0 ≤ r.2.1) := by
  obtain ⟨r, i', h', e, p, _⟩ := below_some l hl i h n h0
  exact En.of ⟨_, e, p⟩
theorem max_some (a b : Int) : ∃ r, spec_l1Max.f a b = some r := by
  unfold spec_l1Max.f
  split <;> exact ⟨_, rfl⟩
theorem pick_some (l : List Int) (hl : l.length ≤ maxLen) (i h : Int) (xs : List Int) (h0 : 0 ≤ i) (hx : 0 < xs.length) : ∃ r i' h', spec_l1PickInt.f l i h xs = some (r, i', h') ∧ 0 ≤ i' ∧ r ∈ xs := by
  unfold spec_l1PickInt.f
  obtain ⟨r, i1, h1, e, p1, r0, r1, _⟩ := below_some l hl i h (xs.length : Int) h0
  have r1 := r1 (by omega)
  rw [e]
  simp only [Option.bind_some]
  rw [if_pos r0, if_pos r1]
  refine ⟨_, _, _, rfl, p1, ?_⟩
  unfold rd
  rw [List.getD_eq_getElem?_getD, List.getElem?_eq_getElem (by omega), Option.getD_some]
  exact List.getElem_mem _
theorem pick_en (l : List Int) (hl : l.length ≤ maxLen) (i h : Int) (x : Int) (xs : List Int) (h0 : 0 ≤ i) : En (fun _ => spec_l1PickInt.f l i h (x :: xs)) (fun r => 0 ≤ r.2.1) := by
  obtain ⟨r, i', h', e, p, _⟩ := pick_some l hl i h (x :: xs) h0 (by simp)
  exact En.of ⟨_, e, p⟩
theorem some_en {α : Type} {o : Option α} (h : ∃ r, o = some r) : En (fun _ => o) (fun _ => True) := by
  obtain ⟨r, e⟩ := h
  exact En.of ⟨r, e, trivial⟩
theorem drawShare_en (l : List Int) (hl : l.length ≤ maxLen) (i h : Int) (h0 : 0 ≤ i) : En (fun _ => spec_l1DrawShare.f l i h) (fun r => 0 ≤ r.2.2.1) := by
  unfold spec_l1DrawShare.f
  refine En.bind (pick_en l hl _ _ _ _ h0) (fun r1 h1 => ?_)
  refine En.bind (some_en (max_some _ _)) (fun r2 _ => ?_)
  refine En.bind (below_en l hl _ _ _ h1) (fun r3 h3 => ?_)
  refine En.bind (below_en l hl _ _ _ h3) (fun r4 h4 => ?_)
  refine En.ite (fun _ => ?_) (fun _ => En.ite (fun _ => ?_) (fun _ => En.now h4))
  · exact En.bind (pick_en l hl _ _ _ _ h4) (fun r5 h5 => En.now h5)
  · exact En.bind (pick_en l hl _ _ _ _ h4) (fun r5 h5 => En.now h5)
theorem sin_eq (a b c : Int) : spec_l1In.f a b c = some (decide (b ≤ a ∧ a ≤ c)) := by
  unfold spec_l1In.f
  by_cases h : a ≥ b
  · rw [if_pos h]; simp [show b ≤ a from h]
  · rw [if_neg h]; simp; omega
theorem sshare_eq (q p : Int) : spec_ShareOk.f q p = some (decide (ShareP q p)) := by
  unfold spec_ShareOk.f ShareP
  simp only [sin_eq, Option.bind_some, decide_eq_true_eq]
  by_cases h : 1 ≤ p ∧ p ≤ 40
  · simp only [h, and_self, if_true, true_and]
  · simp only [h, if_false, false_and, decide_false]
theorem drawShares_loop (l : List Int) (hl : l.length ≤ maxLen) (n : Int) (hn : n ≤ 10) : ∀ (m : Nat) (x : List S50) (j i h : Int), 0 ≤ i → 0 ≤ j → (n - j).toNat = m → x.length ≤ j.toNat → En (fun k => spec_l1DrawShares.l0 k x n j l i h) (fun _ => True) := by
  intro m
  induction m with
  | zero =>
    intro x j i h h0 hj hm hx
    refine En.step (fun k => by simp only [spec_l1DrawShares.l0]; rfl) ?_
    exact En.ite (fun z => absurd z (by omega)) (fun _ => En.now trivial)
  | succ m ih =>
    intro x j i h h0 hj hm hx
    refine En.step (fun k => by simp only [spec_l1DrawShares.l0]; rfl) ?_
    refine En.ite (fun _ => ?_) (fun _ => En.now trivial)
    refine En.bind (drawShare_en l hl _ _ h0) (fun r hr => ?_)
    rw [wr (j + 1) (by omega) (by omega)]
    have go : ∀ s : S50, En (fun k => if x.length < 8796093022208 then spec_l1DrawShares.l0 k (x ++ [s]) n (j + 1) l r.2.2.1 r.2.2.2 else none) (fun _ => True) := fun s =>
      En.ite (fun _ => ih _ _ _ _ hr (by omega) (by omega) (by rw [List.length_append, List.length_singleton]; omega)) (fun z => absurd z (by omega))
    refine En.ite (fun _ => ?_) (fun _ => go _)
    simp only [sshare_eq, Option.bind_some, decide_eq_true_eq]
    exact En.ite (fun _ => go _) (fun _ => go _)
theorem once_some (l : List Int) (hl : l.length ≤ maxLen) (i h n : Int) (h0 : 0 ≤ i) : ∃ b i' h', spec_l1Once.f l i h n = some (b, i', h') ∧ 0 ≤ i' := by
  obtain ⟨r, i', h', e, p, _⟩ := below_some l hl i h n h0
  exact ⟨r == 0, i', h', by unfold spec_l1Once.f; rw [e]; rfl, p⟩
theorem once_en (l : List Int) (hl : l.length ≤ maxLen) (i h n : Int) (h0 : 0 ≤ i) : En (fun _ => spec_l1Once.f l i h n) (fun r => 0 ≤ r.2.1) := by
  obtain ⟨r, i', h', e, p⟩ := once_some l hl i h n h0
  exact En.of ⟨_, e, p⟩
theorem drawShares_en (l : List Int) (hl : l.length ≤ maxLen) (i h : Int) (h0 : 0 ≤ i) : En (fun k => spec_l1DrawShares.f k l i h) (fun _ => True) := by
  unfold spec_l1DrawShares.f
  simp only [Option.bind_some]
  obtain ⟨r, i', h', e, p, hr0, hr, _⟩ := below_some l hl i h 5 h0
  have hr := hr (by omega)
  rw [e]
  simp only [Option.bind_some]
  refine En.bind (once_en l hl _ _ _ p) (fun r2 h2 => ?_)
  have go : ∀ (n i h : Int), 0 ≤ i → n ≤ 10 → En (fun k => spec_l1DrawShares.j0 k [] n l i h) (fun _ => True) := by
    intro n i h h0 hn
    refine En.step (fun k => by simp only [spec_l1DrawShares.j0]; rfl) ?_
    exact drawShares_loop l hl n hn _ [] 0 i h h0 (by omega) rfl (by simp)
  refine En.ite (fun _ => ?_) (fun _ => go _ _ _ h2 (by omega))
  obtain ⟨r3, i3, h3, e3, p3, hr3, hr4, _⟩ := below_some l hl r2.2.1 r2.2.2 2 h2
  have hr4 := hr4 (by omega)
  rw [e3]
  simp only [Option.bind_some]
  rw [wr (7 + r3) (by omega) (by omega)]
  exact go _ _ _ p3 (by omega)
/-! The cursor over the drawn bytes: whatever it holds, a draw answers. -/
theorem new_loop (l : List Int) (hl : l.length ≤ maxLen) (d : Nat) : ∀ (k : Nat) (h i : Int), 0 ≤ i → (l.length : Int) - i ≤ d → d < k → ∃ h', spec_l1New.l0 k l h i = some (l, 0, h') := by
  unfold maxLen at hl
  induction d with
  | zero =>
    intro k h i h0 hd hk
    obtain ⟨k, rfl⟩ : ∃ m, k = m + 1 := ⟨k - 1, by omega⟩
    exact ⟨h, by simp only [spec_l1New.l0]; rw [if_neg (by omega)]⟩
  | succ d ih =>
    intro k h i h0 hd hk
    obtain ⟨k, rfl⟩ : ∃ m, k = m + 1 := ⟨k - 1, by omega⟩
    simp only [spec_l1New.l0]
    by_cases e : i < (l.length : Int)
    · rw [if_pos e]
      by_cases e2 : i < 4000
      · rw [if_pos e2, if_pos h0, wr (i + 1) (by omega) (by omega)]
        exact ih k _ _ (by omega) (by omega) (by omega)
      · rw [if_neg e2]
        exact ⟨_, rfl⟩
    · rw [if_neg e]
      exact ⟨_, rfl⟩
theorem new_ev (l : List Int) (hl : l.length ≤ maxLen) : ∃ h, Ev (fun k => spec_l1New.f k l) (l, 0, h) := by
  obtain ⟨h, e⟩ := new_loop l hl l.length (l.length + 1) (wrap64 (18511 + (l.length : Int))) 0 (by omega) (by omega) (by omega)
  exact ⟨h, Ev.of (fun k => spec_l1New.mono l k) e⟩
theorem new_en (l : List Int) (hl : l.length ≤ maxLen) : En (fun k => spec_l1New.f k l) (fun r => r.1 = l ∧ 0 ≤ r.2.1) := by
  obtain ⟨h, e⟩ := new_ev l hl
  exact ⟨_, e, rfl, Int.le_refl _⟩
theorem drawFits_en (l : List Int) (hl : l.length ≤ maxLen) : En (fun k => spec_DrawFits.f k l) (fun _ => True) := by
  unfold spec_DrawFits.f
  refine En.bind (new_en l hl) (fun r hr => ?_)
  rw [hr.1]
  exact En.bind (drawShares_en l hl _ _ hr.2) (fun s _ => En.now trivial)
def fitsOf (r : Int × Int × Bool) : Bool := if r.2.2 = true then decide (r.1 ≤ r.2.1) else false
/-! The exact sum. -/
def den : List S50 → Int
  | [] => 1
  | s :: r => s.f1 * den r
def num : List S50 → Int
  | [] => 0
  | s :: r => s.f0 * den r + s.f1 * num r
theorem den_pos : ∀ (l : List S50), (∀ x ∈ l, ShareP x.f0 x.f1) → 1 ≤ den l ∧ 0 ≤ num l
  | [], _ => ⟨by simp [den], by simp [num]⟩
  | s :: r, h => by
    have ih := den_pos r (fun x hx => h x (List.mem_cons_of_mem _ hx))
    have hs := h s List.mem_cons_self
    obtain ⟨⟨p1, p2⟩, q1, q2⟩ := hs
    have a := Int.mul_le_mul_of_nonneg_left ih.1 (show 0 ≤ s.f1 by omega)
    have b := Int.mul_nonneg (show 0 ≤ s.f0 by omega) (show 0 ≤ den r by omega)
    have c := Int.mul_nonneg (show 0 ≤ s.f1 by omega) ih.2
    unfold den num
    omega
theorem mul_cancel_le {a b g : Int} (hg : 1 ≤ g) (h : a * g ≤ b * g) : a ≤ b := by
  by_cases c : a ≤ b
  · exact c
  · exfalso
    have h1 : b + 1 ≤ a := by omega
    have h2 := Int.mul_le_mul_of_nonneg_right h1 (show 0 ≤ g by omega)
    rw [Int.add_mul, Int.one_mul] at h2
    omega
def stepD (n d q p : Int) : Int := Int.tdiv (d * p) (Int.gcd (n * p + q * d) (d * p))
/-! Fractions: one more share, shortened. -/
def stepN (n d q p : Int) : Int := Int.tdiv (n * p + q * d) (Int.gcd (n * p + q * d) (d * p))
/-- The sum of a list's shares, from n by d on; the first that is not right ends it. -/
def sumFrom : List S50 → Int → Int → Int × Int × Bool
  | [], n, d => (n, d, true)
  | s :: r, n, d => if ShareP s.f0 s.f1 then sumFrom r (stepN n d s.f0 s.f1) (stepD n d s.f0 s.f1) else (0, 0, false)
def SumInv (i : Nat) (n d : Int) : Prop := 1 ≤ d ∧ d ≤ (40 : Int) ^ i ∧ 0 ≤ n ∧ n ≤ (i : Int) * d
theorem gcd_div (a b : Int) (h : Int.gcd a b ≠ 0) : Int.gcd (Int.tdiv a (Int.gcd a b)) (Int.tdiv b (Int.gcd a b)) = 1 := by
  have ha : ((Int.gcd a b : Nat) : Int) ∣ a := Int.gcd_dvd_left ..
  have hb : ((Int.gcd a b : Nat) : Int) ∣ b := Int.gcd_dvd_right ..
  unfold Int.gcd
  rw [Int.natAbs_tdiv, Int.natAbs_tdiv]
  simp only [Int.natAbs_natCast]
  show Nat.gcd (a.natAbs / Nat.gcd a.natAbs b.natAbs) (b.natAbs / Nat.gcd a.natAbs b.natAbs) = 1
  rw [Nat.gcd_div (Nat.gcd_dvd_left _ _) (Nat.gcd_dvd_right _ _)]
  exact Nat.div_self (by unfold Int.gcd at h; omega)
theorem pow40 (i : Nat) (h : i ≤ 7) : (1 : Int) ≤ (40 : Int) ^ i ∧ (40 : Int) ^ i ≤ 163840000000 := by
  match i, h with
  | 0, _ => decide
  | 1, _ => decide
  | 2, _ => decide
  | 3, _ => decide
  | 4, _ => decide
  | 5, _ => decide
  | 6, _ => decide
  | 7, _ => decide
/-- What one step comes to, and that nothing wraps. -/
theorem step_all (i : Nat) (hi : i < 7) (n d q p : Int) (h : SumInv i n d) (hs : ShareP q p) :
    wrap64 (wrap64 (n * p) + wrap64 (q * d)) = n * p + q * d ∧ wrap64 (d * p) = d * p ∧ 1 ≤ d * p ∧ 0 ≤ n * p + q * d ∧ d * p ≤ 163840000000 ∧ n * p + q * d ≤ 7 * 163840000000 ∧
    (1 : Int) ≤ (Int.gcd (n * p + q * d) (d * p) : Nat) ∧ stepN n d q p * (Int.gcd (n * p + q * d) (d * p) : Nat) = n * p + q * d ∧ stepD n d q p * (Int.gcd (n * p + q * d) (d * p) : Nat) = d * p ∧
    wrap64 (stepN n d q p) = stepN n d q p ∧ wrap64 (stepD n d q p) = stepD n d q p ∧ SumInv (i + 1) (stepN n d q p) (stepD n d q p) := by
  obtain ⟨h1, h2, h3, h4⟩ := h
  obtain ⟨⟨p1, p2⟩, q1, q2⟩ := hs
  have hb := pow40 i (by omega)
  have hb' := pow40 (i + 1) (by omega)
  have hpow : (40 : Int) ^ (i + 1) = (40 : Int) ^ i * 40 := Int.pow_succ ..
  have a1 : d * p ≤ (40 : Int) ^ i * 40 := by
    have x := Int.mul_le_mul_of_nonneg_left p2 (show 0 ≤ d by omega)
    have y := Int.mul_le_mul_of_nonneg_right h2 (show (0 : Int) ≤ 40 by omega)
    omega
  have a2 : 1 ≤ d * p := by
    have x := Int.mul_le_mul_of_nonneg_left p1 (show 0 ≤ d by omega)
    omega
  have a3 : 0 ≤ n * p := Int.mul_nonneg h3 (by omega)
  have a4 : n * p ≤ (i : Int) * (d * p) := by
    have x := Int.mul_le_mul_of_nonneg_right h4 (show 0 ≤ p by omega)
    rwa [Int.mul_assoc] at x
  have a5 : 0 ≤ q * d := Int.mul_nonneg (by omega) (by omega)
  have a6 : q * d ≤ d * p := by
    have x := Int.mul_le_mul_of_nonneg_right q2 (show 0 ≤ d by omega)
    rwa [Int.mul_comm p d] at x
  have a7 : (i : Int) * (d * p) + d * p = ((i + 1 : Nat) : Int) * (d * p) := by
    rw [show ((i + 1 : Nat) : Int) = (i : Int) + 1 by omega, Int.add_mul, Int.one_mul]
  have a8 : (i : Int) * (d * p) ≤ 6 * (d * p) := Int.mul_le_mul_of_nonneg_right (by omega) (by omega)
  unfold stepN stepD
  generalize hN : n * p + q * d = N
  generalize hD : d * p = D at *
  have b1 : 0 ≤ N := by omega
  have b2 : N ≤ ((i + 1 : Nat) : Int) * D := by omega
  have gN : ((Int.gcd N D : Nat) : Int) ∣ N := Int.gcd_dvd_left ..
  have gD : ((Int.gcd N D : Nat) : Int) ∣ D := Int.gcd_dvd_right ..
  have g0 : Int.gcd N D ≠ 0 := by
    intro e
    obtain ⟨_, e⟩ := Int.gcd_eq_zero_iff.1 e
    omega
  have eN := Int.tdiv_mul_cancel gN
  have eD := Int.tdiv_mul_cancel gD
  have hG : (1 : Int) ≤ ((Int.gcd N D : Nat) : Int) := by omega
  generalize ((Int.gcd N D : Nat) : Int) = G at *
  generalize Int.tdiv N G = N' at *
  generalize Int.tdiv D G = D' at *
  have c1 : 1 ≤ D' := by
    by_cases c : D' ≤ 0
    · exfalso
      have x := Int.mul_le_mul_of_nonneg_right c (show 0 ≤ G by omega)
      omega
    · omega
  have c2 : D' ≤ D := by
    have x := Int.mul_le_mul_of_nonneg_left hG (show 0 ≤ D' by omega)
    omega
  have c3 : 0 ≤ N' := by
    by_cases c : N' ≤ -1
    · exfalso
      have x := Int.mul_le_mul_of_nonneg_right c (show 0 ≤ G by omega)
      omega
    · omega
  have c4 : N' ≤ N := by
    have x := Int.mul_le_mul_of_nonneg_left hG c3
    omega
  have c5 : N' ≤ ((i + 1 : Nat) : Int) * D' := mul_cancel_le hG (by rw [eN, Int.mul_assoc, eD]; exact b2)
  have w1 : wrap64 (n * p) = n * p := wr _ (by omega) (by omega)
  have w2 : wrap64 (q * d) = q * d := wr _ (by omega) (by omega)
  refine ⟨by rw [w1, w2, hN]; exact wr _ (by omega) (by omega), wr _ (by omega) (by omega), a2, b1, by omega, by omega, hG, eN, eD, wr _ (by omega) (by omega), wr _ (by omega) (by omega), c1, ?_, c3, c5⟩
  omega
theorem sum_all : ∀ (l : List S50) (i : Nat) (n d : Int), i + l.length ≤ 7 → SumInv i n d → Int.gcd n d = 1 → (∀ x ∈ l, ShareP x.f0 x.f1) →
    ∃ n' d', sumFrom l n d = (n', d', true) ∧ 1 ≤ d' ∧ 0 ≤ n' ∧ n' ≤ 1146880000000 ∧ d' ≤ 163840000000 ∧ Int.gcd n' d' = 1 ∧ n' * (d * den l) = d' * (n * den l + d * num l)
  | [], i, n, d, hi, h, hg, _ => by
    have hp := pow40 i (by simpa using hi)
    obtain ⟨h1, h2, h3, h4⟩ := h
    have x := Int.mul_le_mul_of_nonneg_right (show (i : Int) ≤ 7 by simp at hi; omega) (show 0 ≤ d by omega)
    refine ⟨n, d, rfl, h1, h3, by omega, by omega, hg, ?_⟩
    simp [den, num, Int.mul_comm]
  | s :: r, i, n, d, hi, h, hg, ha => by
    have hs := ha s List.mem_cons_self
    simp only [List.length_cons] at hi
    obtain ⟨e1, e2, e3, e4, e5, e6, e7, e8, e9, e10, e11, e12⟩ := step_all i (by omega) n d _ _ h hs
    have hg2 : Int.gcd (stepN n d s.f0 s.f1) (stepD n d s.f0 s.f1) = 1 := gcd_div _ _ (by omega)
    obtain ⟨n', d', f1, f2, f3, f4, f5, f6, f7⟩ := sum_all r (i + 1) _ _ (by omega) e12 hg2 (fun x hx => ha x (List.mem_cons_of_mem _ hx))
    refine ⟨n', d', by rw [sumFrom, if_pos hs]; exact f1, f2, f3, f4, f5, f6, ?_⟩
    generalize ((Int.gcd (n * s.f1 + s.f0 * d) (d * s.f1) : Nat) : Int) = G at *
    generalize stepN n d s.f0 s.f1 = n1 at *
    generalize stepD n d s.f0 s.f1 = d1 at *
    unfold den num
    generalize den r = Dr at *
    generalize num r = Nr at *
    generalize s.f0 = q at *
    generalize s.f1 = p at *
    have k1 : n' * (d1 * G * Dr) = d' * (n1 * G * Dr + d1 * G * Nr) := by grind
    rw [e8, e9] at k1
    grind
theorem sum_bad : ∀ (l : List S50) (n d : Int), (∃ x ∈ l, ¬ ShareP x.f0 x.f1) → sumFrom l n d = (0, 0, false)
  | [], n, d, h => by obtain ⟨x, hx, _⟩ := h; exact absurd hx List.not_mem_nil
  | s :: r, n, d, h => by
    unfold sumFrom
    by_cases c : ShareP s.f0 s.f1
    · rw [if_pos c]
      refine sum_bad r _ _ ?_
      obtain ⟨x, hx, hb⟩ := h
      rcases List.mem_cons.1 hx with rfl | hx
      · exact absurd c hb
      · exact ⟨x, hx, hb⟩
    · rw [if_neg c]
theorem sum_bad' (l : List S50) (h : ¬ ∀ x ∈ l, ShareP x.f0 x.f1) (n d : Int) : sumFrom l n d = (0, 0, false) := by
  refine sum_bad l n d ?_
  apply Classical.byContradiction
  intro hn
  exact h fun x hx => Classical.byContradiction fun z => hn ⟨x, hx, z⟩
/-- When a list fits: all right, at most seven, and the exact sum at most one. -/
theorem fits_iff (l : List S50) : fitsOf (if (l.length : Int) > 7 then (0, 0, false) else sumFrom l 0 1) = true ↔ (l.length ≤ 7 ∧ (∀ x ∈ l, ShareP x.f0 x.f1) ∧ num l ≤ den l) := by
  by_cases h7 : (l.length : Int) > 7
  · rw [if_pos h7]
    constructor
    · intro h; simp [fitsOf] at h
    · intro h; omega
  · rw [if_neg h7]
    by_cases ha : ∀ x ∈ l, ShareP x.f0 x.f1
    · obtain ⟨n', d', f1, f2, f3, f4, f5, f6, f7⟩ := sum_all l 0 0 1 (by omega) ⟨by omega, by decide, by omega, by omega⟩ (by decide) ha
      have hd := den_pos l ha
      rw [f1]
      simp only [fitsOf, if_true, decide_eq_true_eq]
      rw [Int.one_mul, Int.zero_mul, Int.one_mul, Int.zero_add] at f7
      constructor
      · intro h
        refine ⟨by omega, ha, ?_⟩
        have x := Int.mul_le_mul_of_nonneg_right h (show 0 ≤ den l by omega)
        refine mul_cancel_le f2 ?_
        rw [Int.mul_comm (num l), Int.mul_comm (den l)]
        omega
      · intro h
        refine mul_cancel_le hd.1 ?_
        have x := Int.mul_le_mul_of_nonneg_left h.2.2 (show 0 ≤ d' by omega)
        omega
    · rw [sum_bad' l ha]
      constructor
      · intro h; simp [fitsOf] at h
      · intro h; exact absurd h.2.1 ha
def gcdOf (a b : Int) : Int := if (-1000000 ≤ a ∧ a ≤ 1000000) ∧ (-1000000 ≤ b ∧ b ≤ 1000000) then ((Int.gcd a b : Nat) : Int) else 0
theorem gcd_step (x0 x1 : Int) (h : x1 ≠ 0) : Int.gcd x1 (Int.tmod x0 x1) = Int.gcd x0 x1 := by
  unfold Int.gcd
  rw [Int.natAbs_tmod, Nat.gcd_comm x0.natAbs, Nat.gcd_comm x1.natAbs (x0.natAbs % x1.natAbs), ← Nat.gcd_rec]
theorem impl_gcd_l0 (n : Nat) : ∀ (k : Nat) (x0 x1 : Int), x1.natAbs < n → n ≤ k → x0.natAbs ≤ 9223372036854775807 → x1.natAbs ≤ 9223372036854775807 → impl_gcd.l0 k x0 x1 = some ((Int.gcd x0 x1 : Nat) : Int) := by
  induction n with
  | zero => intro k x0 x1 h; omega
  | succ n ih =>
    intro k x0 x1 h hk h0 h1
    obtain ⟨k, rfl⟩ : ∃ m, k = m + 1 := ⟨k - 1, by omega⟩
    simp only [impl_gcd.l0]
    by_cases e : x1 = 0
    · subst e
      rw [if_pos rfl, Int.gcd_zero_right]
      congr 1
      unfold mx wrap64
      split <;> omega
    · rw [if_neg e]
      have hm : (Int.tmod x0 x1).natAbs < x1.natAbs := by rw [Int.natAbs_tmod]; exact Nat.mod_lt _ (by omega)
      rw [ih k x1 _ (by omega) (by omega) h1 (by omega), gcd_step _ _ e]
theorem igcd_ev (a b : Int) (ha : a.natAbs ≤ 9223372036854775807) (hb : b.natAbs ≤ 9223372036854775807) : Ev (fun k => impl_gcd.f k a b) ((Int.gcd a b : Nat) : Int) := by
  refine Ev.of (fun k => impl_gcd.mono a b k) (k := b.natAbs + 1) ?_
  unfold impl_gcd.f
  exact impl_gcd_l0 (b.natAbs + 1) _ a b (by omega) (Nat.le_refl _) ha hb
theorem rdH (l : List S50) (i : Nat) (h : i < l.length) : rd_T50 l (i : Int) = l[i] := by
  unfold rd_T50
  rw [Int.toNat_natCast, List.getD_eq_getElem?_getD, List.getElem?_eq_getElem h, Option.getD_some]
theorem iSum_loop (l : List S50) (hl : l.length ≤ 7) (ha : ∀ (i : Nat) (h : i < l.length), ShareP (l[i]).f0 (l[i]).f1) : ∀ (m i : Nat) (n d : Int), l.length - i = m → i ≤ l.length → SumInv i n d → Ev (fun k => impl_SumOf.l0 k n d l (l.length : Int) (i : Int)) (sumFrom (l.drop i) n d) := by
  intro m
  induction m with
  | zero =>
    intro i n d hm hi h
    refine Ev.step (fun k => by simp only [impl_SumOf.l0]; rfl) ?_
    rw [List.drop_eq_nil_of_le (by omega), sumFrom]
    exact evNeg (by omega) (Ev.now _)
  | succ m ih =>
    intro i n d hm hi h
    have hlt : i < l.length := by omega
    refine Ev.step (fun k => by simp only [impl_SumOf.l0]; rfl) ?_
    refine evPos (by omega) (evPos (by omega) (evPos (by omega) ?_))
    rw [rdH l i hlt, List.drop_eq_getElem_cons hlt, sumFrom]
    have hs := ha i hlt
    rw [if_pos hs]
    obtain ⟨e1, e2, e3, e4, e5, e6, e7, e8, e9, e10, e11, e12⟩ := step_all i (by omega) n d _ _ h hs
    rw [e1, e2]
    refine Ev.bind (igcd_ev _ _ (by omega) (by omega)) ?_
    refine evNeg (by omega) ?_
    have r1 : wrap64 (Int.tdiv (n * (l[i]).f1 + (l[i]).f0 * d) (Int.gcd (n * (l[i]).f1 + (l[i]).f0 * d) (d * (l[i]).f1))) = stepN n d (l[i]).f0 (l[i]).f1 := e10
    have r2 : wrap64 (Int.tdiv (d * (l[i]).f1) (Int.gcd (n * (l[i]).f1 + (l[i]).f0 * d) (d * (l[i]).f1))) = stepD n d (l[i]).f0 (l[i]).f1 := e11
    rw [r1, r2, wr ((i : Int) + 1) (by omega) (by omega)]
    exact ih (i + 1) _ _ (by omega) (by omega) e12
theorem idxF_neg {α : Type} (p : α → Bool) : ∀ (l : List α) (i : Int), 0 ≤ i → (idxF p l i < 0 ↔ ∀ x ∈ l, p x = false)
  | [], i, _ => by simp [idxF]
  | x :: r, i, h => by
    have ih := idxF_neg p r (i + 1) (by omega)
    unfold idxF
    by_cases c : p x = true
    · rw [if_pos c]
      constructor
      · intro z; omega
      · intro z
        have := z x List.mem_cons_self
        rw [c] at this
        cases this
    · rw [if_neg c, ih]
      have c : p x = false := by simpa using c
      simp [c]
theorem iSum_ev (l : List S50) : Ev (fun k => impl_SumOf.f k l) (if (l.length : Int) > 7 then (0, 0, false) else sumFrom l 0 1) := by
  unfold impl_SumOf.f
  by_cases h : (l.length : Int) > 7
  · rw [if_pos h]
    refine evPos h ?_
    refine Ev.step (fun k => by simp only [impl_SumOf.j0]; rfl) ?_
    exact evPos trivial (Ev.now _)
  · rw [if_neg h]
    refine evNeg h ?_
    simp only [impl_Share_102.f, Option.bind_some]
    have hi := idxF_neg badShare l 0 (by omega)
    by_cases c : idxF badShare l 0 < 0
    · rw [show decide (0 ≤ idxF badShare l 0) = false from decide_eq_false (by omega)]
      refine Ev.step (fun k => by simp only [impl_SumOf.j0]; rfl) ?_
      refine evNeg (by decide) ?_
      refine iSum_loop l (by omega) (fun i hl => ?_) l.length 0 0 1 (by omega) (by omega) ⟨by omega, by decide, by omega, by omega⟩
      have := hi.1 c l[i] (List.getElem_mem hl)
      unfold badShare at this
      simpa using this
    · rw [show decide (0 ≤ idxF badShare l 0) = true from decide_eq_true (by omega)]
      refine Ev.step (fun k => by simp only [impl_SumOf.j0]; rfl) ?_
      refine evPos trivial ?_
      rw [sum_bad l 0 1]
      · exact Ev.now _
      · apply Classical.byContradiction
        intro hn
        refine c (hi.2 fun x hx => ?_)
        unfold badShare
        have : ShareP x.f0 x.f1 := Classical.byContradiction fun z => hn ⟨x, hx, z⟩
        simp [this]
theorem iFits_ev (l : List S50) : Ev (fun k => impl_Fits.f k l) (fitsOf (if (l.length : Int) > 7 then (0, 0, false) else sumFrom l 0 1)) := by
  unfold impl_Fits.f
  refine Ev.bind (iSum_ev l) (evEq _ (fun _ => rfl) ?_)
  generalize (if (l.length : Int) > 7 then (0, 0, false) else sumFrom l 0 1) = r
  unfold fitsOf
  by_cases h : r.2.2 = true <;> simp [h]
theorem in_eq (a b c : Int) : impl_in.f a b c = some (decide (b ≤ a ∧ a ≤ c)) := by
  unfold impl_in.f
  by_cases h : a ≥ b
  · rw [if_pos h]; simp [show b ≤ a from h]
  · rw [if_neg h]; simp; omega
theorem iGcd_ev (a b : Int) : Ev (fun k => impl_Gcd.f k a b) (gcdOf a b) := by
  unfold impl_Gcd.f gcdOf
  simp only [in_eq, Option.bind_some]
  by_cases ha : -1000000 ≤ a ∧ a ≤ 1000000
  · by_cases hb : -1000000 ≤ b ∧ b ≤ 1000000
    · simp only [ha, hb, and_self, decide_true, if_true]
      refine Ev.bind (a := ((Int.gcd a b : Nat) : Int)) ?_ (Ev.now _)
      refine Ev.of (fun k => impl_gcd.mono a b k) (k := b.natAbs + 1) ?_
      exact impl_gcd_l0 (b.natAbs + 1) _ a b (by omega) (by omega) (by omega) (by omega)
    · simp only [ha, hb, decide_false, and_false, if_false]
      exact Ev.now _
  · simp only [ha, decide_false, false_and, if_false]
    exact Ev.now _
theorem spec_gcd_l0 (n : Nat) : ∀ (k : Nat) (x0 x1 : Int), x1.natAbs < n → n ≤ k → 0 ≤ x0 → 0 ≤ x1 → spec_l1Gcd.l0 k x0 x1 = some ((Int.gcd x0 x1 : Nat) : Int) := by
  induction n with
  | zero => intro k x0 x1 h; omega
  | succ n ih =>
    intro k x0 x1 h hk h0 h1
    obtain ⟨k, rfl⟩ : ∃ m, k = m + 1 := ⟨k - 1, by omega⟩
    simp only [spec_l1Gcd.l0]
    by_cases e : x1 = 0
    · subst e
      rw [if_neg (by omega), Int.gcd_zero_right]
      congr 1
      omega
    · rw [if_pos (by omega), if_neg e]
      have hm : (Int.tmod x0 x1).natAbs < x1.natAbs := by rw [Int.natAbs_tmod]; exact Nat.mod_lt _ (by omega)
      have hn : 0 ≤ Int.tmod x0 x1 := Int.tmod_nonneg _ h0
      rw [ih k x1 _ (by omega) (by omega) h1 hn, gcd_step _ _ e]
theorem sgcd_ev (a b : Int) (ha : 0 ≤ a) (hb : 0 ≤ b) : Ev (fun k => spec_l1Gcd.f k a b) ((Int.gcd a b : Nat) : Int) := by
  refine Ev.of (fun k => spec_l1Gcd.mono a b k) (k := b.natAbs + 1) ?_
  unfold spec_l1Gcd.f
  exact spec_gcd_l0 (b.natAbs + 1) _ a b (by omega) (Nat.le_refl _) ha hb
theorem sSum_loop (l : List S50) (hl : l.length ≤ 7) : ∀ (m i : Nat) (n d : Int), l.length - i = m → i ≤ l.length → SumInv i n d → Ev (fun k => spec_SumOf.l0 k l n d (i : Int)) (sumFrom (l.drop i) n d) := by
  intro m
  induction m with
  | zero =>
    intro i n d hm hi h
    refine Ev.step (fun k => by simp only [spec_SumOf.l0]; rfl) ?_
    rw [List.drop_eq_nil_of_le (by omega), sumFrom]
    exact evNeg (by omega) (Ev.now _)
  | succ m ih =>
    intro i n d hm hi h
    have hlt : i < l.length := by omega
    refine Ev.step (fun k => by simp only [spec_SumOf.l0]; rfl) ?_
    refine evPos (by omega) (evPos (by omega) ?_)
    rw [rdH l i hlt, sshare_eq, List.drop_eq_getElem_cons hlt, sumFrom]
    simp only [Option.bind_some, decide_eq_true_eq]
    by_cases hs : ShareP (l[i]).f0 (l[i]).f1
    · rw [if_pos hs]
      refine evPos hs ?_
      obtain ⟨e1, e2, e3, e4, e5, e6, e7, e8, e9, e10, e11, e12⟩ := step_all i (by omega) n d _ _ h hs
      rw [e1, e2]
      refine Ev.bind (sgcd_ev _ _ e4 (by omega)) ?_
      refine evNeg (by omega) ?_
      have r1 : wrap64 (Int.tdiv (n * (l[i]).f1 + (l[i]).f0 * d) (Int.gcd (n * (l[i]).f1 + (l[i]).f0 * d) (d * (l[i]).f1))) = stepN n d (l[i]).f0 (l[i]).f1 := e10
      have r2 : wrap64 (Int.tdiv (d * (l[i]).f1) (Int.gcd (n * (l[i]).f1 + (l[i]).f0 * d) (d * (l[i]).f1))) = stepD n d (l[i]).f0 (l[i]).f1 := e11
      rw [r1, r2, wr ((i : Int) + 1) (by omega) (by omega)]
      exact ih (i + 1) _ _ (by omega) (by omega) e12
    · rw [if_neg hs]
      exact evNeg hs (Ev.now _)
theorem sSum_ev (l : List S50) : Ev (fun k => spec_SumOf.f k l) (if (l.length : Int) > 7 then (0, 0, false) else sumFrom l 0 1) := by
  unfold spec_SumOf.f
  by_cases h : (l.length : Int) > 7
  · rw [if_pos h]
    exact evPos h (Ev.now _)
  · rw [if_neg h]
    exact evNeg h (sSum_loop l (by omega) l.length 0 0 1 (by omega) (by omega) ⟨by omega, by decide, by omega, by omega⟩)
theorem sFits_ev (l : List S50) : Ev (fun k => spec_Fits.f k l) (fitsOf (if (l.length : Int) > 7 then (0, 0, false) else sumFrom l 0 1)) := by
  unfold spec_Fits.f
  refine Ev.bind (sSum_ev l) (evEq _ (fun _ => rfl) ?_)
  generalize (if (l.length : Int) > 7 then (0, 0, false) else sumFrom l 0 1) = r
  unfold fitsOf
  by_cases h : r.2.2 = true <;> simp [h]
theorem den_snoc : ∀ (l : List S50) (s : S50), den (l ++ [s]) = den l * s.f1 ∧ num (l ++ [s]) = num l * s.f1 + s.f0 * den l
  | [], s => by simp [den, num]
  | t :: r, s => by
    obtain ⟨h1, h2⟩ := den_snoc r s
    simp only [List.cons_append, den, num, h1, h2]
    constructor <;> grind
theorem fits_init (s : S50) (r : List S50) (ha : ∀ x ∈ r ++ [s], ShareP x.f0 x.f1) (h : num (r ++ [s]) ≤ den (r ++ [s])) : num r ≤ den r := by
  have hs := ha s (by simp)
  obtain ⟨⟨p1, p2⟩, q1, q2⟩ := hs
  have hd := den_pos r (fun x hx => ha x (List.mem_append_left _ hx))
  obtain ⟨e1, e2⟩ := den_snoc r s
  rw [e1, e2] at h
  have b := Int.mul_nonneg (show 0 ≤ s.f0 by omega) (show 0 ≤ den r by omega)
  exact mul_cancel_le p1 (by omega)
theorem fits_tail (s : S50) (r : List S50) (hl : (s :: r).length ≤ 7) (ha : ∀ x ∈ s :: r, ShareP x.f0 x.f1) (h : num (s :: r) ≤ den (s :: r)) : num r ≤ den r := by
  have hs := ha s List.mem_cons_self
  obtain ⟨⟨p1, p2⟩, q1, q2⟩ := hs
  have hd := den_pos r (fun x hx => ha x (List.mem_cons_of_mem _ hx))
  simp only [num, den] at h
  have b := Int.mul_nonneg (show 0 ≤ s.f0 by omega) (show 0 ≤ den r by omega)
  refine mul_cancel_le p1 ?_
  rw [Int.mul_comm (num r), Int.mul_comm (den r)]
  omega
theorem sharesOne (l : List S50) (x5 : Int) (hz : l.length = 0 → x5 = 0) : Ev (fun k => laws_FnShares.j1 k l (fitsOf (if (l.length : Int) > 7 then (0, 0, false) else sumFrom l 0 1)) x5 false) true := by
  refine Ev.step (fun k => by simp only [laws_FnShares.j1]; rfl) ?_
  refine evNeg (by decide) ?_
  by_cases h0 : (l.length : Int) = 0
  · have hn : l = [] := List.length_eq_zero_iff.1 (by omega)
    refine evPos h0 (evPos ?_ (evEq _ (fun _ => rfl) ?_))
    · subst hn
      decide
    · rw [hz (by omega)]
      rfl
  · refine evNeg h0 ?_
    by_cases hf : fitsOf (if (l.length : Int) > 7 then (0, 0, false) else sumFrom l 0 1) = true
    · refine evPos hf (evPos (by omega) ?_)
      obtain ⟨f1, f2, f3⟩ := (fits_iff l).1 hf
      have hd1 : fitsOf (if ((l.drop 1).length : Int) > 7 then (0, 0, false) else sumFrom (l.drop 1) 0 1) = true := by
        refine (fits_iff _).2 ⟨by rw [List.length_drop]; omega, fun x hx => f2 x (List.mem_of_mem_drop hx), ?_⟩
        cases l with
        | nil => simp at h0
        | cons s r => exact fits_tail s r f1 f2 f3
      have hd2 : fitsOf (if ((l.take (l.length - 1)).length : Int) > 7 then (0, 0, false) else sumFrom (l.take (l.length - 1)) 0 1) = true := by
        refine (fits_iff _).2 ⟨by rw [List.length_take]; omega, fun x hx => f2 x (List.mem_of_mem_take hx), ?_⟩
        have hne : l ≠ [] := by intro e; rw [e] at h0; simp at h0
        have e := List.dropLast_concat_getLast hne
        rw [List.dropLast_eq_take] at e
        rw [← e] at f2 f3
        have := fits_init _ _ f2 f3
        exact this
      have i1 := iFits_ev (l.drop 1)
      rw [hd1] at i1
      have i2 := iFits_ev (l.take (l.length - 1))
      rw [hd2] at i2
      refine Ev.bind i1 (evPos rfl ?_)
      rw [wr _ (by omega) (by omega)]
      refine evPos (by omega) (evPos (by omega) ?_)
      rw [show ((l.length : Int) - 1).toNat = l.length - 1 by omega]
      refine Ev.bind i2 (Ev.now _)
    · exact evNeg hf (Ev.now _)
theorem FnShares : laws_FnShares.Pure := by
  intro l hl _ _
  refine Ev.rounds (r := true) ?_
  unfold laws_FnShares.f laws_big.f
  simp only [Option.bind_some, decide_eq_true_eq]
  by_cases hb : (l.length : Int) > 1048576
  · exact evPos hb (Ev.now _)
  · refine evNeg hb ?_
    obtain ⟨x, e, _⟩ := drawFits_en l hl
    refine Ev.bind e (Ev.bind (iFits_ev x) (Ev.bind (iSum_ev x) (Ev.bind (sSum_ev x) (Ev.bind (sFits_ev x) ?_))))
    simp only [bne_self_eq_false]
    refine evNeg (by decide) (evNeg (by decide) (evPos trivial ?_))
    refine Ev.step (fun k => by simp only [laws_FnShares.j0]; rfl) ?_
    refine evNeg (by decide) ?_
    have one := sharesOne x
    have fi := fits_iff x
    by_cases h7 : (x.length : Int) > 7
    · simp only [if_pos h7] at one fi ⊢
      refine evNeg (by decide) (evNeg (by decide) (evPos (by trivial) (evEq _ (fun _ => rfl) (by decide))))
    · simp only [if_neg h7] at one fi ⊢
      by_cases ha : ∀ s ∈ x, ShareP s.f0 s.f1
      · obtain ⟨n', d', f1, f2, f3, f4, f5, f6, f7⟩ := sum_all x 0 0 1 (by omega) ⟨by omega, by decide, by omega, by omega⟩ (by decide) ha
        have hz : x.length = 0 → n' = 0 := by
          intro h0
          have hx : x = [] := List.length_eq_zero_iff.1 h0
          subst hx
          have := (Prod.mk.inj f1).1
          exact this.symm
        rw [f1] at one fi ⊢
        refine evPos rfl (evNeg (by show ¬ d' < 1; omega) (evNeg (by show ¬ n' < 0; omega) ?_))
        refine Ev.bind (iGcd_ev n' d') ?_
        have hfit : (fitsOf (n', d', true) != decide (n' ≤ d')) = false := by
          simp [fitsOf]
        rw [hfit]
        by_cases hg : gcdOf n' d' = 1
        · exact evPos hg (one n' hz)
        · refine evNeg hg ?_
          by_cases h1 : d' ≤ 1000000
          · refine evPos h1 (evNeg ?_ (one n' hz))
            intro h2
            refine hg ?_
            unfold gcdOf
            rw [if_pos (by omega), f6]
            rfl
          · exact evNeg h1 (one n' hz)
      · rw [sum_bad' x ha] at one fi ⊢
        refine evNeg (by decide) (evNeg (by decide) (evPos (by trivial) (evEq _ (fun _ => rfl) (by decide))))

end Go.Proofs.Ytnokdjkkgcpbdac.Pure
