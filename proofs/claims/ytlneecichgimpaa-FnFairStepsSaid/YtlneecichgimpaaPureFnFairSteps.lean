/- The pure statement of FnFairSteps, over numbers and lists: a drawn task that spends fairly has as much more as its step; woken it has at least the floor. Conditions: those of the statement (the drawn bytes lie in memory). -/
import Derived.Test.YtlneecichgimpaaPrintLawsFnFairSteps
set_option linter.unusedVariables false
set_option linter.unusedSimpArgs false
namespace Go.Proofs.Ytlneecichgimpaa.Pure
open Go.RowKit Go.Proofs.Ytlneecichgimpaa.Print Go.Proofs.YtlneecichgimpaaW.PrintWords Go.Proofs.YtlneecichgimpaaW.PrintLast Go.Proofs.YtlneecichgimpaaW.PrintMore Go.Proofs.Ytlneecichgimpaa.Base

/-! A draw answers, and with what. -/
def En {α : Type} (f : Nat → Option α) (Q : α → Prop) : Prop := ∃ r, Ev f r ∧ Q r
theorem En.bind {α β : Type} {f : Nat → Option α} {P : α → Prop} {g : α → Nat → Option β} {Q : β → Prop} (h : En f P) (hg : ∀ r, P r → En (fun k => g r k) Q) : En (fun k => (f k).bind (fun r => g r k)) Q := by
  obtain ⟨r, e, p⟩ := h
  obtain ⟨s, e2, q⟩ := hg r p
  exact ⟨s, Ev.bind e e2, q⟩
theorem En.now {α : Type} {r : α} {Q : α → Prop} (h : Q r) : En (fun _ => some r) Q := ⟨r, Ev.now r, h⟩
theorem En.ite {α : Type} {c : Prop} [Decidable c] {f g : Nat → Option α} {Q : α → Prop} (h : c → En f Q) (h' : ¬ c → En g Q) : En (fun k => if c then f k else g k) Q := by
  by_cases hc : c
  · obtain ⟨r, e, q⟩ := h hc
    exact ⟨r, evPos hc e, q⟩
  · obtain ⟨r, e, q⟩ := h' hc
    exact ⟨r, evNeg hc e, q⟩
theorem En.of {α : Type} {o : Option α} {P : α → Prop} (h : ∃ r, o = some r ∧ P r) : En (fun _ => o) P := by
  obtain ⟨r, e, p⟩ := h
  exact ⟨r, ⟨0, fun _ _ => e⟩, p⟩
theorem and255 (x : Int) : 0 ≤ Go.bits .and .i64 x 255 ∧ Go.bits .and .i64 x 255 ≤ 255 := by
  have e : Go.bits .and .i64 x 255 = IntKind.i64.wrap (((BitVec.ofInt 64 x) &&& (BitVec.ofInt 64 255)).toNat : Nat) := rfl
  have h : ((BitVec.ofInt 64 x) &&& (BitVec.ofInt 64 255)).toNat ≤ 255 := by rw [BitVec.toNat_and]; exact Nat.and_le_right
  rw [e, IntKind.wrap_i64]
  omega
theorem byte_some (l : List Int) (hl : l.length ≤ maxLen) (i h : Int) (h0 : 0 ≤ i) : ∃ b i' h', spec_l1Byte.f l i h = some (b, i', h') ∧ 0 ≤ b ∧ b ≤ 255 ∧ 0 ≤ i' := by
  unfold maxLen at hl
  unfold spec_l1Byte.f
  by_cases e : i < (l.length : Int)
  · rw [if_pos e, if_pos h0, wr (i + 1) (by omega) (by omega)]
    exact ⟨_, _, _, rfl, (and255 _).1, (and255 _).2, by omega⟩
  · rw [if_neg e]
    exact ⟨_, _, _, rfl, (and255 _).1, (and255 _).2, by omega⟩
theorem below_some (l : List Int) (hl : l.length ≤ maxLen) (i h n : Int) (h0 : 0 ≤ i) : ∃ r i' h', spec_l1Below.f l i h n = some (r, i', h') ∧ 0 ≤ i' ∧ 0 ≤ r ∧ (0 < n → r < n) ∧ (n ≤ 0 → r = 0) := by
  unfold spec_l1Below.f
  by_cases e : n ≤ 0
  · rw [if_pos e]
    exact ⟨_, _, _, rfl, h0, by omega, by omega, by omega⟩
  · rw [if_neg e]
    obtain ⟨b, i1, h1, e1, b0, b1, p1⟩ := byte_some l hl i h h0
    by_cases e2 : n ≤ 256
    · rw [if_pos e2, e1]
      simp only [Option.bind_some]
      rw [if_neg (by omega)]
      have := Int.tmod_nonneg n b0
      have := Int.tmod_lt_of_pos b (show 0 < n by omega)
      exact ⟨_, _, _, rfl, p1, by omega, by omega, by omega⟩
    · rw [if_neg e2, e1]
      simp only [Option.bind_some]
      obtain ⟨c, i2, h2, e3, c0, c1, p2⟩ := byte_some l hl i1 h1 p1
      rw [e3]
      simp only [Option.bind_some]
      obtain ⟨d, i3, h3, e4, d0, d1, p3⟩ := byte_some l hl i2 h2 p2
      rw [e4]
      simp only [Option.bind_some]
      obtain ⟨f, i4, h4, e5, f0, f1, p4⟩ := byte_some l hl i3 h3 p3
      rw [e5]
      simp only [Option.bind_some]
      rw [if_neg (by omega), wr (b * 16777216) (by omega) (by omega), wr (c * 65536) (by omega) (by omega), wr (d * 256) (by omega) (by omega), wr (b * 16777216 + c * 65536) (by omega) (by omega), wr (b * 16777216 + c * 65536 + d * 256) (by omega) (by omega), wr (b * 16777216 + c * 65536 + d * 256 + f) (by omega) (by omega)]
      have := Int.tmod_nonneg n (show 0 ≤ b * 16777216 + c * 65536 + d * 256 + f by omega)
      have := Int.tmod_lt_of_pos (b * 16777216 + c * 65536 + d * 256 + f) (show 0 < n by omega)
      exact ⟨_, _, _, rfl, p4, by omega, by omega, by omega⟩
theorem below_en (l : List Int) (hl : l.length ≤ maxLen) (i h n : Int) (h0 : 0 ≤ i) : En (fun _ => spec_l1Below.f l i h n) (fun r => 0 ≤ r.2.1) := by
  obtain ⟨r, i', h', e, p, _⟩ := below_some l hl i h n h0
  exact En.of ⟨_, e, p⟩
theorem En.step {α : Type} {f g : Nat → Option α} {Q : α → Prop} (h : ∀ k, f (k + 1) = g k) (e : En g Q) : En f Q := by
  obtain ⟨r, e, q⟩ := e
  exact ⟨r, Ev.step h e, q⟩
theorem draw3j_en (l : List Int) (i h : Int) (h0 : 0 ≤ i) (a0 a1 a2 a3 : Int) (a4 : Bool) (a5 a6 a7 a8 a9 a10 a11 a12 a13 : Int) : En (fun k => spec_l3Draw.j0 k l i h a0 a1 a2 a3 a4 a5 a6 a7 a8 a9 a10 a11 a12 a13) (fun r => 0 ≤ r.2.2.2.2.2.2.2.2.2.2.2.2.2.2.1) := by
  refine En.step (fun k => by simp only [spec_l3Draw.j0]; rfl) ?_
  exact En.now h0
theorem once_some (l : List Int) (hl : l.length ≤ maxLen) (i h n : Int) (h0 : 0 ≤ i) : ∃ b i' h', spec_l1Once.f l i h n = some (b, i', h') ∧ 0 ≤ i' := by
  obtain ⟨r, i', h', e, p, _⟩ := below_some l hl i h n h0
  exact ⟨r == 0, i', h', by unfold spec_l1Once.f; rw [e]; rfl, p⟩
theorem once_en (l : List Int) (hl : l.length ≤ maxLen) (i h n : Int) (h0 : 0 ≤ i) : En (fun _ => spec_l1Once.f l i h n) (fun r => 0 ≤ r.2.1) := by
  obtain ⟨r, i', h', e, p⟩ := once_some l hl i h n h0
  exact En.of ⟨_, e, p⟩
theorem drawRight0_en (l : List Int) (hl : l.length ≤ maxLen) (i h : Int) (h0 : 0 ≤ i) (a0 a1 a2 a3 : Int) (a4 : Bool) (a5 a6 a7 a8 a9 a10 a11 a12 a13 : Int) : En (fun k => spec_l3DrawRight.j0 k l i h a0 a1 a2 a3 a4 a5 a6 a7 a8 a9 a10 a11 a12 a13) (fun r => 0 ≤ r.2.2.2.2.2.2.2.2.2.2.2.2.2.2.1) := by
  refine En.step (fun k => by simp only [spec_l3DrawRight.j0]; rfl) ?_
  refine En.bind (once_en l hl _ _ _ h0) (fun r hr => ?_)
  refine En.ite (fun _ => ?_) (fun _ => ?_)
  all_goals
    refine En.bind (once_en l hl _ _ _ hr) (fun s hs => ?_)
    exact En.now hs
theorem sin_eq (a b c : Int) : spec_l1In.f a b c = some (decide (b ≤ a ∧ a ≤ c)) := by
  unfold spec_l1In.f
  by_cases h : a ≥ b
  · rw [if_pos h]; simp [show b ≤ a from h]
  · rw [if_neg h]; simp; omega
theorem snew_some (a0 a1 a2 a3 : Int) (a4 : Bool) (a5 a6 a7 a8 a9 a10 a11 a12 a13 : Int) : ∃ r, spec_l3New.f a0 a1 a2 a3 a4 a5 a6 a7 a8 a9 a10 a11 a12 a13 = some r := by
  unfold spec_l3New.f spec_TaskOk.f
  simp only [Option.bind_some]
  split <;> exact ⟨_, rfl⟩
theorem sshare_eq (q p : Int) : spec_ShareOk.f q p = some (decide (ShareP q p)) := by
  unfold spec_ShareOk.f ShareP
  simp only [sin_eq, Option.bind_some, decide_eq_true_eq]
  by_cases h : 1 ≤ p ∧ p ≤ 40
  · simp only [h, and_self, if_true, true_and]
  · simp only [h, if_false, false_and, decide_false]
theorem snewDue_some (no cpu q p now : Int) : ∃ r, spec_NewDue.f no cpu q p now = some r := by
  unfold spec_NewDue.f
  obtain ⟨r, hr⟩ := snew_some no 1 cpu 1 false q p q (wrap64 (now + p)) 0 0 0 0 0
  simp only [sin_eq, sshare_eq, hr, Option.bind_some]
  repeat' split
  all_goals exact ⟨_, rfl⟩
theorem snewFair_some (no cpu nice v : Int) : ∃ r, spec_NewFair.f no cpu nice v = some r := by
  unfold spec_NewFair.f
  obtain ⟨r, hr⟩ := snew_some no 3 cpu 1 false 0 0 0 0 0 0 0 nice v
  simp only [hr, Option.bind_some]
  exact ⟨_, rfl⟩
theorem snewFixed_some (no cpu prio round seq : Int) : ∃ r, spec_NewFixed.f no cpu prio round seq = some r := by
  unfold spec_NewFixed.f
  obtain ⟨r, hr⟩ := snew_some no 2 cpu 1 false 0 0 round 0 prio round seq 0 0
  simp only [hr, Option.bind_some]
  exact ⟨_, rfl⟩
theorem some_en {α : Type} {o : Option α} (h : ∃ r, o = some r) : En (fun _ => o) (fun _ => True) := by
  obtain ⟨r, e⟩ := h
  exact En.of ⟨r, e, trivial⟩
theorem drawRight_en (l : List Int) (hl : l.length ≤ maxLen) (i h : Int) (h0 : 0 ≤ i) : En (fun k => spec_l3DrawRight.f k l i h) (fun r => 0 ≤ r.2.2.2.2.2.2.2.2.2.2.2.2.2.2.1) := by
  unfold spec_l3DrawRight.f
  refine En.bind (below_en l hl _ _ _ h0) (fun r1 h1 => ?_)
  refine En.bind (below_en l hl _ _ _ h1) (fun r2 h2 => ?_)
  refine En.bind (below_en l hl _ _ _ h2) (fun r3 h3 => ?_)
  refine En.ite (fun _ => ?_) (fun _ => En.ite (fun _ => ?_) (fun _ => ?_))
  · refine En.bind (below_en l hl _ _ _ h3) (fun r4 h4 => ?_)
    refine En.bind (below_en l hl _ _ _ h4) (fun r5 h5 => ?_)
    refine En.bind (below_en l hl _ _ _ h5) (fun r6 h6 => ?_)
    refine En.bind (some_en (snewDue_some _ _ _ _ _)) (fun r7 _ => ?_)
    refine En.bind (below_en l hl _ _ _ h6) (fun r8 h8 => ?_)
    exact drawRight0_en l hl _ _ h8 _ _ _ _ _ _ _ _ _ _ _ _ _ _
  · refine En.bind (below_en l hl _ _ _ h3) (fun r4 h4 => ?_)
    refine En.bind (below_en l hl _ _ _ h4) (fun r5 h5 => ?_)
    refine En.bind (below_en l hl _ _ _ h5) (fun r6 h6 => ?_)
    refine En.bind (some_en (snewFixed_some _ _ _ _ _)) (fun r7 _ => ?_)
    refine En.ite (fun _ => ?_) (fun _ => ?_)
    · refine En.bind (below_en l hl _ _ _ h6) (fun r8 h8 => ?_)
      exact drawRight0_en l hl _ _ h8 _ _ _ _ _ _ _ _ _ _ _ _ _ _
    · exact drawRight0_en l hl _ _ h6 _ _ _ _ _ _ _ _ _ _ _ _ _ _
  · refine En.bind (below_en l hl _ _ _ h3) (fun r4 h4 => ?_)
    refine En.bind (below_en l hl _ _ _ h4) (fun r5 h5 => ?_)
    refine En.bind (some_en (snewFair_some _ _ _ _)) (fun r7 _ => ?_)
    exact drawRight0_en l hl _ _ h5 _ _ _ _ _ _ _ _ _ _ _ _ _ _
theorem pick_some (l : List Int) (hl : l.length ≤ maxLen) (i h : Int) (xs : List Int) (h0 : 0 ≤ i) (hx : 0 < xs.length) : ∃ r i' h', spec_l1PickInt.f l i h xs = some (r, i', h') ∧ 0 ≤ i' ∧ r ∈ xs := by
  unfold spec_l1PickInt.f
  obtain ⟨r, i1, h1, e, p1, r0, r1, _⟩ := below_some l hl i h (xs.length : Int) h0
  have r1 := r1 (by omega)
  rw [e]
  simp only [Option.bind_some]
  rw [if_pos r0, if_pos r1]
  refine ⟨_, _, _, rfl, p1, ?_⟩
  unfold rd
  rw [List.getD_eq_getElem?_getD, List.getElem?_eq_getElem (by omega), Option.getD_some]
  exact List.getElem_mem _
theorem pick_en (l : List Int) (hl : l.length ≤ maxLen) (i h : Int) (x : Int) (xs : List Int) (h0 : 0 ≤ i) : En (fun _ => spec_l1PickInt.f l i h (x :: xs)) (fun r => 0 ≤ r.2.1) := by
  obtain ⟨r, i', h', e, p, _⟩ := pick_some l hl i h (x :: xs) h0 (by simp)
  exact En.of ⟨_, e, p⟩
theorem draw3_en (l : List Int) (hl : l.length ≤ maxLen) (i h : Int) (h0 : 0 ≤ i) : En (fun k => spec_l3Draw.f k l i h) (fun r => 0 ≤ r.2.2.2.2.2.2.2.2.2.2.2.2.2.2.1) := by
  unfold spec_l3Draw.f
  refine En.bind (drawRight_en l hl i h h0) (fun r1 h1 => ?_)
  refine En.bind (below_en l hl _ _ _ h1) (fun r2 h2 => ?_)
  refine En.ite (fun _ => En.bind (pick_en l hl _ _ _ _ h2) (fun r3 h3 => draw3j_en l _ _ h3 _ _ _ _ _ _ _ _ _ _ _ _ _ _)) (fun _ => ?_)
  refine En.ite (fun _ => En.bind (pick_en l hl _ _ _ _ h2) (fun r3 h3 => draw3j_en l _ _ h3 _ _ _ _ _ _ _ _ _ _ _ _ _ _)) (fun _ => ?_)
  refine En.ite (fun _ => En.bind (below_en l hl _ _ _ h2) (fun r3 h3 => draw3j_en l _ _ h3 _ _ _ _ _ _ _ _ _ _ _ _ _ _)) (fun _ => ?_)
  refine En.ite (fun _ => En.bind (below_en l hl _ _ _ h2) (fun r3 h3 => draw3j_en l _ _ h3 _ _ _ _ _ _ _ _ _ _ _ _ _ _)) (fun _ => ?_)
  refine En.ite (fun _ => En.bind (below_en l hl _ _ _ h2) (fun r3 h3 => draw3j_en l _ _ h3 _ _ _ _ _ _ _ _ _ _ _ _ _ _)) (fun _ => ?_)
  refine En.ite (fun _ => En.bind (pick_en l hl _ _ _ _ h2) (fun r3 h3 => draw3j_en l _ _ h3 _ _ _ _ _ _ _ _ _ _ _ _ _ _)) (fun _ => ?_)
  refine En.ite (fun _ => En.bind (pick_en l hl _ _ _ _ h2) (fun r3 h3 => draw3j_en l _ _ h3 _ _ _ _ _ _ _ _ _ _ _ _ _ _)) (fun _ => ?_)
  refine En.ite (fun _ => En.bind (below_en l hl _ _ _ h2) (fun r3 h3 => draw3j_en l _ _ h3 _ _ _ _ _ _ _ _ _ _ _ _ _ _)) (fun _ => ?_)
  exact draw3j_en l _ _ h2 _ _ _ _ _ _ _ _ _ _ _ _ _ _
theorem draw6_loop (l : List Int) (hl : l.length ≤ maxLen) : ∀ (d : Nat) (x i h : Int) (a0 a1 a2 a3 : Int) (a4 : Bool) (a5 a6 a7 a8 a9 a10 a11 a12 a13 : Int), 0 ≤ i → 0 ≤ x → x ≤ 4 → 4 - x = (d : Int) → En (fun k => spec_l6Draw.l0 k x l i h a0 a1 a2 a3 a4 a5 a6 a7 a8 a9 a10 a11 a12 a13) (fun r => 0 ≤ r.2.2.2.2.2.2.2.2.2.2.2.2.2.2.1) := by
  intro d
  induction d with
  | zero =>
    intro x i h a0 a1 a2 a3 a4 a5 a6 a7 a8 a9 a10 a11 a12 a13 h0 hx0 hx hd
    refine En.step (fun k => by simp only [spec_l6Draw.l0]; rfl) ?_
    exact En.ite (fun z => absurd z (by omega)) (fun _ => En.now h0)
  | succ d ih =>
    intro x i h a0 a1 a2 a3 a4 a5 a6 a7 a8 a9 a10 a11 a12 a13 h0 hx0 hx hd
    refine En.step (fun k => by simp only [spec_l6Draw.l0]; rfl) ?_
    refine En.ite (fun _ => ?_) (fun _ => En.now h0)
    refine En.ite (fun _ => En.now h0) (fun _ => ?_)
    refine En.bind (draw3_en l hl _ _ h0) (fun r hr => ?_)
    rw [wr _ (by omega) (by omega)]
    exact ih (x + 1) _ _ _ _ _ _ _ _ _ _ _ _ _ _ _ _ hr (by omega) (by omega) (by omega)
theorem draw6_en (l : List Int) (hl : l.length ≤ maxLen) (i h : Int) (h0 : 0 ≤ i) : En (fun k => spec_l6Draw.f k l i h) (fun r => 0 ≤ r.2.2.2.2.2.2.2.2.2.2.2.2.2.2.1) := by
  unfold spec_l6Draw.f
  refine En.bind (draw3_en l hl _ _ h0) (fun r hr => ?_)
  exact draw6_loop l hl 4 0 _ _ _ _ _ _ _ _ _ _ _ _ _ _ _ _ hr (by omega) (by omega) (by omega)
theorem drawFl_en (l : List Int) (hl : l.length ≤ maxLen) (i h : Int) (h0 : 0 ≤ i) : En (fun _ => spec_l6DrawFloor.f l i h) (fun r => 0 ≤ r.2.1) := by
  unfold spec_l6DrawFloor.f
  refine En.bind (once_en l hl _ _ _ h0) (fun r hr => ?_)
  refine En.ite (fun _ => ?_) (fun _ => ?_)
  · exact En.bind (pick_en l hl _ _ _ _ hr) (fun s hs => En.now hs)
  · exact En.bind (below_en l hl _ _ _ hr) (fun s hs => En.now hs)
/-! The cursor over the drawn bytes: whatever it holds, a draw answers. -/
theorem new_loop (l : List Int) (hl : l.length ≤ maxLen) (d : Nat) : ∀ (k : Nat) (h i : Int), 0 ≤ i → (l.length : Int) - i ≤ d → d < k → ∃ h', spec_l1New.l0 k l h i = some (l, 0, h') := by
  unfold maxLen at hl
  induction d with
  | zero =>
    intro k h i h0 hd hk
    obtain ⟨k, rfl⟩ : ∃ m, k = m + 1 := ⟨k - 1, by omega⟩
    exact ⟨h, by simp only [spec_l1New.l0]; rw [if_neg (by omega)]⟩
  | succ d ih =>
    intro k h i h0 hd hk
    obtain ⟨k, rfl⟩ : ∃ m, k = m + 1 := ⟨k - 1, by omega⟩
    simp only [spec_l1New.l0]
    by_cases e : i < (l.length : Int)
    · rw [if_pos e]
      by_cases e2 : i < 4000
      · rw [if_pos e2, if_pos h0, wr (i + 1) (by omega) (by omega)]
        exact ih k _ _ (by omega) (by omega) (by omega)
      · rw [if_neg e2]
        exact ⟨_, rfl⟩
    · rw [if_neg e]
      exact ⟨_, rfl⟩
theorem new_ev (l : List Int) (hl : l.length ≤ maxLen) : ∃ h, Ev (fun k => spec_l1New.f k l) (l, 0, h) := by
  obtain ⟨h, e⟩ := new_loop l hl l.length (l.length + 1) (wrap64 (18511 + (l.length : Int))) 0 (by omega) (by omega) (by omega)
  exact ⟨h, Ev.of (fun k => spec_l1New.mono l k) e⟩
theorem new_en (l : List Int) (hl : l.length ≤ maxLen) : En (fun k => spec_l1New.f k l) (fun r => r.1 = l ∧ 0 ≤ r.2.1) := by
  obtain ⟨h, e⟩ := new_ev l hl
  exact ⟨_, e, rfl, Int.le_refl _⟩
theorem drawFairWake_en (l : List Int) (hl : l.length ≤ maxLen) : En (fun k => spec_DrawFairWake.f k l) (fun _ => True) := by
  unfold spec_DrawFairWake.f
  refine En.bind (new_en l hl) (fun r hr => ?_)
  rw [hr.1]
  refine En.bind (draw6_en l hl _ _ hr.2) (fun s hs => ?_)
  exact En.bind (drawFl_en l hl _ _ hs) (fun s _ => En.now trivial)
theorem in_eq (a b c : Int) : impl_in.f a b c = some (decide (b ≤ a ∧ a ≤ c)) := by
  unfold impl_in.f
  by_cases h : a ≥ b
  · rw [if_pos h]; simp [show b ≤ a from h]
  · rw [if_neg h]; simp; omega
theorem isFair_eq (a0 a1 a2 a3 : Int) (a4 : Bool) (a5 a6 a7 a8 a9 a10 a11 a12 a13 : Int) : impl_isFair.f a0 a1 a2 a3 a4 a5 a6 a7 a8 a9 a10 a11 a12 a13 = some (decide (TaskP a0 a1 a2 a3 a5 a6 a7 a8 a9 a10 a11 a12 a13 ∧ a1 = 3)) := by
  unfold impl_isFair.f impl_TaskOk.f
  by_cases h : a1 = 3
  · rw [if_pos h]
    simp [h]
  · rw [if_neg h]
    simp [h]
theorem sisFair_eq (a0 a1 a2 a3 : Int) (a4 : Bool) (a5 a6 a7 a8 a9 a10 a11 a12 a13 : Int) : spec_l6Fair.f a0 a1 a2 a3 a4 a5 a6 a7 a8 a9 a10 a11 a12 a13 = some (decide (TaskP a0 a1 a2 a3 a5 a6 a7 a8 a9 a10 a11 a12 a13 ∧ a1 = 3)) := by
  unfold spec_l6Fair.f spec_TaskOk.f
  simp only [Option.bind_some, decide_eq_true_eq]
  by_cases h : TaskP a0 a1 a2 a3 a5 a6 a7 a8 a9 a10 a11 a12 a13
  · simp [h, dBeq]
  · simp [h]
theorem nine {P : Int → Prop} (h : P (-4)) (h1 : P (-3)) (h2 : P (-2)) (h3 : P (-1)) (h4 : P 0) (h5 : P 1) (h6 : P 2) (h7 : P 3) (h8 : P 4) (a : Int) (h0 : -4 ≤ a ∧ a ≤ 4) : P a := by
  obtain rfl | rfl | rfl | rfl | rfl | rfl | rfl | rfl | rfl : a = -4 ∨ a = -3 ∨ a = -2 ∨ a = -1 ∨ a = 0 ∨ a = 1 ∨ a = 2 ∨ a = 3 ∨ a = 4 := by omega
  all_goals assumption
theorem snice_eq (a : Int) : spec_NiceOk.f a = some (decide (-4 ≤ a ∧ a ≤ 4)) := by
  unfold spec_NiceOk.f
  rw [sin_eq]
  rfl
def stepOf (a : Int) : Int := if a = -4 then 2 else if a = -3 then 3 else if a = -2 then 4 else if a = -1 then 6 else if a = 0 then 8 else if a = 1 then 12 else if a = 2 then 16 else if a = 3 then 24 else if a = 4 then 48 else 0
theorem step_none (a : Int) (h : ¬ (-4 ≤ a ∧ a ≤ 4)) : stepOf a = 0 := by
  unfold stepOf
  iterate 9 rw [if_neg (by omega)]
theorem sstep_eq (a : Int) : spec_StepOf.f a = some (stepOf a) := by
  by_cases h : -4 ≤ a ∧ a ≤ 4
  · refine nine (P := fun a => spec_StepOf.f a = some (stepOf a)) ?_ ?_ ?_ ?_ ?_ ?_ ?_ ?_ ?_ a h <;> decide +kernel
  · unfold spec_StepOf.f
    simp only [snice_eq, h, Option.bind_some, decide_false, Bool.false_eq_true, if_false, step_none a h]
theorem nice_eq (a : Int) : impl_NiceOk.f a = some (decide (-4 ≤ a ∧ a ≤ 4)) := by
  unfold impl_NiceOk.f
  rw [in_eq]
  rfl
theorem step_eq (a : Int) : impl_StepOf.f a = some (stepOf a) := by
  by_cases h : -4 ≤ a ∧ a ≤ 4
  · refine nine (P := fun a => impl_StepOf.f a = some (stepOf a)) ?_ ?_ ?_ ?_ ?_ ?_ ?_ ?_ ?_ a h <;> decide +kernel
  · unfold impl_StepOf.f
    simp only [nice_eq, h, Option.bind_some, decide_false, Bool.false_eq_true, if_false, step_none a h]
theorem fairSpend_eq (a0 a1 a2 a3 : Int) (a4 : Bool) (a5 a6 a7 a8 a9 a10 a11 a12 a13 : Int) : impl_FairSpend.f a0 a1 a2 a3 a4 a5 a6 a7 a8 a9 a10 a11 a12 a13 = spec_FairSpend.f a0 a1 a2 a3 a4 a5 a6 a7 a8 a9 a10 a11 a12 a13 := by
  unfold impl_FairSpend.f spec_FairSpend.f impl_withV.f spec_l6To.f
  simp only [isFair_eq, sisFair_eq, step_eq, sstep_eq, in_eq, sin_eq, Option.bind_some]
theorem stepOf_pos (y : Int) (h : -4 ≤ y ∧ y ≤ 4) : 1 ≤ stepOf y ∧ stepOf y ≤ 1000 := by
  refine nine (P := fun y => 1 ≤ stepOf y ∧ stepOf y ≤ 1000) ?_ ?_ ?_ ?_ ?_ ?_ ?_ ?_ ?_ y h <;> decide
theorem taskP_V (a0 a1 a2 a3 a5 a6 a7 a8 a9 a10 a11 a12 a13 v : Int) (h : TaskP a0 a1 a2 a3 a5 a6 a7 a8 a9 a10 a11 a12 a13) (h1 : a1 = 3) (hv : 0 ≤ v ∧ v ≤ 100000000) : TaskP a0 a1 a2 a3 a5 a6 a7 a8 a9 a10 a11 a12 v := by
  unfold TaskP at h ⊢
  omega
theorem fairSteps_fair (a0 a1 a2 a3 : Int) (a4 : Bool) (a5 a6 a7 a8 a9 a10 a11 a12 a13 : Int) (fl v u : Int) (h : TaskP a0 a1 a2 a3 a5 a6 a7 a8 a9 a10 a11 a12 a13 ∧ a1 = 3) (hv : v = a13 + stepOf a12 ∨ v = a13 ∧ a13 + stepOf a12 > 100000000) (bv : 0 ≤ v ∧ v ≤ 100000000) (hu : u ≥ a13 ∧ (u ≥ fl ∨ fl > 100000000) ∧ (u = a13 ∨ u = fl)) (bu : 0 ≤ u ∧ u ≤ 100000000) : Ev (fun k => laws_FnFairSteps.j1 k fl false a0 a1 a2 a3 a4 a5 a6 a7 a8 a9 a10 a11 a12 a13 a0 a1 a2 a3 a4 a5 a6 a7 a8 a9 a10 a11 a12 v a0 a1 a2 a3 a4 a5 a6 a7 a8 a9 a10 a11 a12 u) true := by
  have hb : (0 ≤ a13 ∧ a13 ≤ 100000000) ∧ (-4 ≤ a12 ∧ a12 ≤ 4) := by have := h.1; have g := h.2; unfold TaskP at this; omega
  have hs := stepOf_pos a12 hb.2
  have hw : wrap64 (a13 + stepOf a12) = a13 + stepOf a12 := wr _ (by omega) (by omega)
  have tv := taskP_V _ _ _ _ _ _ _ _ _ _ _ _ _ v h.1 h.2 bv
  have tu := taskP_V _ _ _ _ _ _ _ _ _ _ _ _ _ u h.1 h.2 bu
  refine Ev.step (fun k => by simp only [laws_FnFairSteps.j1]; rfl) ?_
  refine evNeg (by decide) (evEq _ (fun _ => rfl) ?_)
  simp only [step_eq, impl_TaskOk.f, Option.bind_some, hw, decide_eq_true_eq, if_pos tv, decide_eq_true tu]
  obtain ⟨u1, u2, u3⟩ := hu
  by_cases q : v = a13 + stepOf a12
  · rw [if_pos q, if_pos u1]
    by_cases f : u ≥ fl
    · rw [if_pos f]
      by_cases e : u = a13
      · rw [if_pos e]
      · rw [if_neg e, if_pos (u3.resolve_left e)]
    · rw [if_neg f, if_pos (u2.resolve_left f)]
      by_cases e : u = a13
      · rw [if_pos e]
      · rw [if_neg e, if_pos (u3.resolve_left e)]
  · have q2 := hv.resolve_left q
    obtain ⟨q2, q3⟩ := q2
    rw [if_neg q, if_pos (by simp [q2]), if_pos q3, if_pos u1]
    by_cases f : u ≥ fl
    · rw [if_pos f]
      by_cases e : u = a13
      · rw [if_pos e]
      · rw [if_neg e, if_pos (u3.resolve_left e)]
    · rw [if_neg f, if_pos (u2.resolve_left f)]
      by_cases e : u = a13
      · rw [if_pos e]
      · rw [if_neg e, if_pos (u3.resolve_left e)]
theorem fairSteps_not (a0 a1 a2 a3 : Int) (a4 : Bool) (a5 a6 a7 a8 a9 a10 a11 a12 a13 : Int) (fl : Int) : Ev (fun k => laws_FnFairSteps.j1 k fl true a0 a1 a2 a3 a4 a5 a6 a7 a8 a9 a10 a11 a12 a13 a0 a1 a2 a3 a4 a5 a6 a7 a8 a9 a10 a11 a12 a13 a0 a1 a2 a3 a4 a5 a6 a7 a8 a9 a10 a11 a12 a13) true := by
  refine Ev.step (fun k => by simp only [laws_FnFairSteps.j1]; rfl) ?_
  refine evPos trivial (evEq _ (fun _ => rfl) ?_)
  simp
theorem smax_eq (a b : Int) : spec_l1Max.f a b = some (if a > b then a else b) := by
  unfold spec_l1Max.f
  split <;> rfl
theorem fairWake_eq (a0 a1 a2 a3 : Int) (a4 : Bool) (a5 a6 a7 a8 a9 a10 a11 a12 a13 : Int) (floor : Int) : impl_FairWake.f a0 a1 a2 a3 a4 a5 a6 a7 a8 a9 a10 a11 a12 a13 floor = spec_FairWake.f a0 a1 a2 a3 a4 a5 a6 a7 a8 a9 a10 a11 a12 a13 floor := by
  unfold impl_FairWake.f spec_FairWake.f impl_withV.f spec_l6To.f
  simp only [isFair_eq, sisFair_eq, smax_eq, in_eq, sin_eq, Option.bind_some, decide_eq_true_eq]
  by_cases h : TaskP a0 a1 a2 a3 a5 a6 a7 a8 a9 a10 a11 a12 a13 ∧ a1 = 3
  · rw [if_pos h, if_pos h]
    have hv : 0 ≤ a13 ∧ a13 ≤ 100000000 := by have := h.1; unfold TaskP at this; omega
    by_cases g : floor ≤ a13
    · rw [if_pos g]
      by_cases e : a13 > floor
      · simp only [if_pos e, if_pos hv, Option.bind_some]
      · have e2 : floor = a13 := by omega
        subst e2
        simp only [gt_iff_lt, Int.lt_irrefl, if_false, if_pos hv, Option.bind_some]
    · rw [if_neg g, if_neg (by omega : ¬ a13 > floor)]
  · rw [if_neg h, if_neg h]
theorem sfs_not (a0 a1 a2 a3 : Int) (a4 : Bool) (a5 a6 a7 a8 a9 a10 a11 a12 a13 : Int) (h : ¬ (TaskP a0 a1 a2 a3 a5 a6 a7 a8 a9 a10 a11 a12 a13 ∧ a1 = 3)) : spec_FairSpend.f a0 a1 a2 a3 a4 a5 a6 a7 a8 a9 a10 a11 a12 a13 = some (a0, a1, a2, a3, a4, a5, a6, a7, a8, a9, a10, a11, a12, a13) := by
  unfold spec_FairSpend.f
  simp only [sisFair_eq, Option.bind_some, decide_eq_true_eq, if_neg h]
theorem sfs_val (a0 a1 a2 a3 : Int) (a4 : Bool) (a5 a6 a7 a8 a9 a10 a11 a12 a13 : Int) (h : TaskP a0 a1 a2 a3 a5 a6 a7 a8 a9 a10 a11 a12 a13 ∧ a1 = 3) : ∃ v, spec_FairSpend.f a0 a1 a2 a3 a4 a5 a6 a7 a8 a9 a10 a11 a12 a13 = some (a0, a1, a2, a3, a4, a5, a6, a7, a8, a9, a10, a11, a12, v) ∧ (v = a13 + stepOf a12 ∨ v = a13 ∧ a13 + stepOf a12 > 100000000) ∧ (0 ≤ v ∧ v ≤ 100000000) := by
  have hv : (0 ≤ a13 ∧ a13 ≤ 100000000) ∧ (-4 ≤ a12 ∧ a12 ≤ 4) := by have := h.1; have g := h.2; unfold TaskP at this; omega
  have hs := stepOf_pos a12 hv.2
  have hw : wrap64 (a13 + stepOf a12) = a13 + stepOf a12 := wr _ (by omega) (by omega)
  unfold spec_FairSpend.f spec_l6To.f
  simp only [sisFair_eq, sstep_eq, sin_eq, Option.bind_some, decide_eq_true_eq, if_pos h, hw]
  by_cases g : 0 ≤ a13 + stepOf a12 ∧ a13 + stepOf a12 ≤ 100000000
  · rw [if_pos g]
    exact ⟨_, rfl, .inl rfl, g⟩
  · rw [if_neg g]
    exact ⟨_, rfl, .inr ⟨rfl, by omega⟩, hv.1⟩
theorem sfw_not (a0 a1 a2 a3 : Int) (a4 : Bool) (a5 a6 a7 a8 a9 a10 a11 a12 a13 : Int) (fl : Int) (h : ¬ (TaskP a0 a1 a2 a3 a5 a6 a7 a8 a9 a10 a11 a12 a13 ∧ a1 = 3)) : spec_FairWake.f a0 a1 a2 a3 a4 a5 a6 a7 a8 a9 a10 a11 a12 a13 fl = some (a0, a1, a2, a3, a4, a5, a6, a7, a8, a9, a10, a11, a12, a13) := by
  unfold spec_FairWake.f
  simp only [sisFair_eq, Option.bind_some, decide_eq_true_eq, if_neg h]
theorem sfw_val (a0 a1 a2 a3 : Int) (a4 : Bool) (a5 a6 a7 a8 a9 a10 a11 a12 a13 : Int) (fl : Int) (h : TaskP a0 a1 a2 a3 a5 a6 a7 a8 a9 a10 a11 a12 a13 ∧ a1 = 3) : ∃ u, spec_FairWake.f a0 a1 a2 a3 a4 a5 a6 a7 a8 a9 a10 a11 a12 a13 fl = some (a0, a1, a2, a3, a4, a5, a6, a7, a8, a9, a10, a11, a12, u) ∧ (u ≥ a13 ∧ (u ≥ fl ∨ fl > 100000000) ∧ (u = a13 ∨ u = fl)) ∧ (0 ≤ u ∧ u ≤ 100000000) := by
  have hv : (0 ≤ a13 ∧ a13 ≤ 100000000) := by have := h.1; have g := h.2; unfold TaskP at this; omega
  unfold spec_FairWake.f spec_l6To.f
  simp only [sisFair_eq, smax_eq, sin_eq, Option.bind_some, decide_eq_true_eq, if_pos h]
  by_cases e : a13 > fl
  · rw [if_pos e, if_pos hv]
    exact ⟨a13, rfl, ⟨by omega, by omega, .inl rfl⟩, hv⟩
  · rw [if_neg e]
    by_cases g : 0 ≤ fl ∧ fl ≤ 100000000
    · rw [if_pos g]
      exact ⟨fl, rfl, ⟨by omega, .inl (by omega), .inr rfl⟩, g⟩
    · rw [if_neg g]
      exact ⟨a13, rfl, ⟨by omega, by omega, .inl rfl⟩, hv⟩
theorem FnFairSteps : laws_FnFairSteps.Pure := by
  intro l hl _ _
  refine Ev.rounds (r := true) ?_
  unfold laws_FnFairSteps.f laws_big.f
  simp only [Option.bind_some, decide_eq_true_eq]
  by_cases hb : (l.length : Int) > 1048576
  · exact evPos hb (Ev.now _)
  · refine evNeg hb ?_
    obtain ⟨⟨a0, a1, a2, a3, a4, a5, a6, a7, a8, a9, a10, a11, a12, a13, fl⟩, e, _⟩ := drawFairWake_en l hl
    refine Ev.bind e ?_
    simp only [fairSpend_eq, fairWake_eq]
    by_cases h : TaskP a0 a1 a2 a3 a5 a6 a7 a8 a9 a10 a11 a12 a13 ∧ a1 = 3
    · obtain ⟨v, e1, hv, bv⟩ := sfs_val a0 a1 a2 a3 a4 a5 a6 a7 a8 a9 a10 a11 a12 a13 h
      obtain ⟨u, e2, hu, bu⟩ := sfw_val a0 a1 a2 a3 a4 a5 a6 a7 a8 a9 a10 a11 a12 a13 fl h
      simp only [e1, e2, Option.bind_some, beq_self_eq_true, Bool.not_true, Bool.or_false, Bool.false_or]
      refine evNeg (by decide) ?_
      refine Ev.step (fun k => by simp only [laws_FnFairSteps.j0]; rfl) ?_
      refine evNeg (by decide) ?_
      simp only [spec_TaskOk.f, Option.bind_some, decide_eq_true_eq]
      refine evPos h.1 ?_
      rw [show (a1 != 3) = false from bne_eq_false_iff_eq.mpr h.2]
      exact fairSteps_fair a0 a1 a2 a3 a4 a5 a6 a7 a8 a9 a10 a11 a12 a13 fl v u h hv bv hu bu
    · simp only [sfs_not a0 a1 a2 a3 a4 a5 a6 a7 a8 a9 a10 a11 a12 a13 h, sfw_not a0 a1 a2 a3 a4 a5 a6 a7 a8 a9 a10 a11 a12 a13 fl h, Option.bind_some, beq_self_eq_true, Bool.not_true, Bool.or_false, Bool.false_or]
      refine evNeg (by decide) ?_
      refine Ev.step (fun k => by simp only [laws_FnFairSteps.j0]; rfl) ?_
      refine evNeg (by decide) ?_
      simp only [spec_TaskOk.f, Option.bind_some, decide_eq_true_eq]
      have n := fairSteps_not a0 a1 a2 a3 a4 a5 a6 a7 a8 a9 a10 a11 a12 a13 fl
      by_cases g : TaskP a0 a1 a2 a3 a5 a6 a7 a8 a9 a10 a11 a12 a13
      · refine evPos g ?_
        rw [show (a1 != 3) = true from bne_iff_ne.mpr fun x => h ⟨g, x⟩]
        exact n
      · exact evNeg g n

end Go.Proofs.Ytlneecichgimpaa.Pure
