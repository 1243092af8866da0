/- The pure statement of FnFixedTurns, over numbers and lists: a drawn task with a round that spends as many ticks as its round goes behind once; without a round never. Conditions: those of the statement (the drawn bytes lie in memory). -/
import Derived.Test.YtphkgmdbdnjmbaaPrintLawsFnFixedTurns
set_option linter.unusedVariables false
set_option linter.unusedSimpArgs false
namespace Go.Proofs.Ytphkgmdbdnjmbaa.Pure
open Go.RowKit Go.Proofs.Ytphkgmdbdnjmbaa.Print Go.Proofs.YtphkgmdbdnjmbaaW.PrintWords Go.Proofs.YtphkgmdbdnjmbaaW.PrintLast Go.Proofs.YtphkgmdbdnjmbaaW.PrintMore Go.Proofs.Ytphkgmdbdnjmbaa.Base

/-! A draw answers, and with what. -/
def En {α : Type} (f : Nat → Option α) (Q : α → Prop) : Prop := ∃ r, Ev f r ∧ Q r
theorem En.bind {α β : Type} {f : Nat → Option α} {P : α → Prop} {g : α → Nat → Option β} {Q : β → Prop} (h : En f P) (hg : ∀ r, P r → En (fun k => g r k) Q) : En (fun k => (f k).bind (fun r => g r k)) Q := by
  obtain ⟨r, e, p⟩ := h
  obtain ⟨s, e2, q⟩ := hg r p
  exact ⟨s, Ev.bind e e2, q⟩
theorem En.now {α : Type} {r : α} {Q : α → Prop} (h : Q r) : En (fun _ => some r) Q := ⟨r, Ev.now r, h⟩
theorem En.ite {α : Type} {c : Prop} [Decidable c] {f g : Nat → Option α} {Q : α → Prop} (h : c → En f Q) (h' : ¬ c → En g Q) : En (fun k => if c then f k else g k) Q := by
  by_cases hc : c
  · obtain ⟨r, e, q⟩ := h hc
    exact ⟨r, evPos hc e, q⟩
  · obtain ⟨r, e, q⟩ := h' hc
    exact ⟨r, evNeg hc e, q⟩
theorem En.of {α : Type} {o : Option α} {P : α → Prop} (h : ∃ r, o = some r ∧ P r) : En (fun _ => o) P := by
  obtain ⟨r, e, p⟩ := h
  exact ⟨r, ⟨0, fun _ _ => e⟩, p⟩
theorem and255 (x : Int) : 0 ≤ Go.bits .and .i64 x 255 ∧ Go.bits .and .i64 x 255 ≤ 255 := by
  have e : Go.bits .and .i64 x 255 = IntKind.i64.wrap (((BitVec.ofInt 64 x) &&& (BitVec.ofInt 64 255)).toNat : Nat) := rfl
  have h : ((BitVec.ofInt 64 x) &&& (BitVec.ofInt 64 255)).toNat ≤ 255 := by rw [BitVec.toNat_and]; exact Nat.and_le_right
  rw [e, IntKind.wrap_i64]
  omega
theorem byte_some (l : List Int) (hl : l.length ≤ maxLen) (i h : Int) (h0 : 0 ≤ i) : ∃ b i' h', spec_l1Byte.f l i h = some (b, i', h') ∧ 0 ≤ b ∧ b ≤ 255 ∧ 0 ≤ i' := by
  unfold maxLen at hl
  unfold spec_l1Byte.f
  by_cases e : i < (l.length : Int)
  · rw [if_pos e, if_pos h0, wr (i + 1) (by omega) (by omega)]
    exact ⟨_, _, _, rfl, (and255 _).1, (and255 _).2, by omega⟩
  · rw [if_neg e]
    exact ⟨_, _, _, rfl, (and255 _).1, (and255 _).2, by omega⟩
theorem below_some (l : List Int) (hl : l.length ≤ maxLen) (i h n : Int) (h0 : 0 ≤ i) : ∃ r i' h', spec_l1Below.f l i h n = some (r, i', h') ∧ 0 ≤ i' ∧ 0 ≤ r ∧ (0 < n → r < n) ∧ (n ≤ 0 → r = 0) := by
  unfold spec_l1Below.f
  by_cases e : n ≤ 0
  · rw [if_pos e]
    exact ⟨_, _, _, rfl, h0, by omega, by omega, by omega⟩
  · rw [if_neg e]
    obtain ⟨b, i1, h1, e1, b0, b1, p1⟩ := byte_some l hl i h h0
    by_cases e2 : n ≤ 256
    · rw [if_pos e2, e1]
      simp only [Option.bind_some]
      rw [if_neg (by omega)]
      have := Int.tmod_nonneg n b0
      have := Int.tmod_lt_of_pos b (show 0 < n by omega)
      exact ⟨_, _, _, rfl, p1, by omega, by omega, by omega⟩
    · rw [if_neg e2, e1]
      simp only [Option.bind_some]
      obtain ⟨c, i2, h2, e3, c0, c1, p2⟩ := byte_some l hl i1 h1 p1
      rw [e3]
      simp only [Option.bind_some]
      obtain ⟨d, i3, h3, e4, d0, d1, p3⟩ := byte_some l hl i2 h2 p2
      rw [e4]
      simp only [Option.bind_some]
      obtain ⟨f, i4, h4, e5, f0, f1, p4⟩ := byte_some l hl i3 h3 p3
      rw [e5]
      simp only [Option.bind_some]
      rw [if_neg (by omega), wr (b * 16777216) (by omega) (by omega), wr (c * 65536) (by omega) (by omega), wr (d * 256) (by omega) (by omega), wr (b * 16777216 + c * 65536) (by omega) (by omega), wr (b * 16777216 + c * 65536 + d * 256) (by omega) (by omega), wr (b * 16777216 + c * 65536 + d * 256 + f) (by omega) (by omega)]
      have := Int.tmod_nonneg n (show 0 ≤ b * 16777216 + c * 65536 + d * 256 + f by omega)
      have := Int.tmod_lt_of_pos (b * 16777216 + c * 65536 + d * 256 + f) (show 0 < n by omega)
      exact ⟨_, _, _, rfl, p4, by omega, by omega, by omega⟩
theorem below_en (l : List Int) (hl : l.length ≤ maxLen) (i h n : Int) (h0 : 0 ≤ i) : En (fun _ => spec_l1Below.f l i h n) (fun r => 0 ≤ r.2.1) := by
  obtain ⟨r, i', h', e, p, _⟩ := below_some l hl i h n h0
  exact En.of ⟨_, e, p⟩
theorem En.step {α : Type} {f g : Nat → Option α} {Q : α → Prop} (h : ∀ k, f (k + 1) = g k) (e : En g Q) : En f Q := by
  obtain ⟨r, e, q⟩ := e
  exact ⟨r, Ev.step h e, q⟩
theorem draw3j_en (l : List Int) (i h : Int) (h0 : 0 ≤ i) (a0 a1 a2 a3 : Int) (a4 : Bool) (a5 a6 a7 a8 a9 a10 a11 a12 a13 : Int) : En (fun k => spec_l3Draw.j0 k l i h a0 a1 a2 a3 a4 a5 a6 a7 a8 a9 a10 a11 a12 a13) (fun r => 0 ≤ r.2.2.2.2.2.2.2.2.2.2.2.2.2.2.1) := by
  refine En.step (fun k => by simp only [spec_l3Draw.j0]; rfl) ?_
  exact En.now h0
theorem once_some (l : List Int) (hl : l.length ≤ maxLen) (i h n : Int) (h0 : 0 ≤ i) : ∃ b i' h', spec_l1Once.f l i h n = some (b, i', h') ∧ 0 ≤ i' := by
  obtain ⟨r, i', h', e, p, _⟩ := below_some l hl i h n h0
  exact ⟨r == 0, i', h', by unfold spec_l1Once.f; rw [e]; rfl, p⟩
theorem once_en (l : List Int) (hl : l.length ≤ maxLen) (i h n : Int) (h0 : 0 ≤ i) : En (fun _ => spec_l1Once.f l i h n) (fun r => 0 ≤ r.2.1) := by
  obtain ⟨r, i', h', e, p⟩ := once_some l hl i h n h0
  exact En.of ⟨_, e, p⟩
theorem drawRight0_en (l : List Int) (hl : l.length ≤ maxLen) (i h : Int) (h0 : 0 ≤ i) (a0 a1 a2 a3 : Int) (a4 : Bool) (a5 a6 a7 a8 a9 a10 a11 a12 a13 : Int) : En (fun k => spec_l3DrawRight.j0 k l i h a0 a1 a2 a3 a4 a5 a6 a7 a8 a9 a10 a11 a12 a13) (fun r => 0 ≤ r.2.2.2.2.2.2.2.2.2.2.2.2.2.2.1) := by
  refine En.step (fun k => by simp only [spec_l3DrawRight.j0]; rfl) ?_
  refine En.bind (once_en l hl _ _ _ h0) (fun r hr => ?_)
  refine En.ite (fun _ => ?_) (fun _ => ?_)
  all_goals
    refine En.bind (once_en l hl _ _ _ hr) (fun s hs => ?_)
    exact En.now hs
theorem sin_eq (a b c : Int) : spec_l1In.f a b c = some (decide (b ≤ a ∧ a ≤ c)) := by
  unfold spec_l1In.f
  by_cases h : a ≥ b
  · rw [if_pos h]; simp [show b ≤ a from h]
  · rw [if_neg h]; simp; omega
theorem snew_some (a0 a1 a2 a3 : Int) (a4 : Bool) (a5 a6 a7 a8 a9 a10 a11 a12 a13 : Int) : ∃ r, spec_l3New.f a0 a1 a2 a3 a4 a5 a6 a7 a8 a9 a10 a11 a12 a13 = some r := by
  unfold spec_l3New.f spec_TaskOk.f
  simp only [Option.bind_some]
  split <;> exact ⟨_, rfl⟩
theorem sshare_eq (q p : Int) : spec_ShareOk.f q p = some (decide (ShareP q p)) := by
  unfold spec_ShareOk.f ShareP
  simp only [sin_eq, Option.bind_some, decide_eq_true_eq]
  by_cases h : 1 ≤ p ∧ p ≤ 40
  · simp only [h, and_self, if_true, true_and]
  · simp only [h, if_false, false_and, decide_false]
theorem snewDue_some (no cpu q p now : Int) : ∃ r, spec_NewDue.f no cpu q p now = some r := by
  unfold spec_NewDue.f
  obtain ⟨r, hr⟩ := snew_some no 1 cpu 1 false q p q (wrap64 (now + p)) 0 0 0 0 0
  simp only [sin_eq, sshare_eq, hr, Option.bind_some]
  repeat' split
  all_goals exact ⟨_, rfl⟩
theorem snewFair_some (no cpu nice v : Int) : ∃ r, spec_NewFair.f no cpu nice v = some r := by
  unfold spec_NewFair.f
  obtain ⟨r, hr⟩ := snew_some no 3 cpu 1 false 0 0 0 0 0 0 0 nice v
  simp only [hr, Option.bind_some]
  exact ⟨_, rfl⟩
theorem snewFixed_some (no cpu prio round seq : Int) : ∃ r, spec_NewFixed.f no cpu prio round seq = some r := by
  unfold spec_NewFixed.f
  obtain ⟨r, hr⟩ := snew_some no 2 cpu 1 false 0 0 round 0 prio round seq 0 0
  simp only [hr, Option.bind_some]
  exact ⟨_, rfl⟩
theorem some_en {α : Type} {o : Option α} (h : ∃ r, o = some r) : En (fun _ => o) (fun _ => True) := by
  obtain ⟨r, e⟩ := h
  exact En.of ⟨r, e, trivial⟩
theorem drawRight_en (l : List Int) (hl : l.length ≤ maxLen) (i h : Int) (h0 : 0 ≤ i) : En (fun k => spec_l3DrawRight.f k l i h) (fun r => 0 ≤ r.2.2.2.2.2.2.2.2.2.2.2.2.2.2.1) := by
  unfold spec_l3DrawRight.f
  refine En.bind (below_en l hl _ _ _ h0) (fun r1 h1 => ?_)
  refine En.bind (below_en l hl _ _ _ h1) (fun r2 h2 => ?_)
  refine En.bind (below_en l hl _ _ _ h2) (fun r3 h3 => ?_)
  refine En.ite (fun _ => ?_) (fun _ => En.ite (fun _ => ?_) (fun _ => ?_))
  · refine En.bind (below_en l hl _ _ _ h3) (fun r4 h4 => ?_)
    refine En.bind (below_en l hl _ _ _ h4) (fun r5 h5 => ?_)
    refine En.bind (below_en l hl _ _ _ h5) (fun r6 h6 => ?_)
    refine En.bind (some_en (snewDue_some _ _ _ _ _)) (fun r7 _ => ?_)
    refine En.bind (below_en l hl _ _ _ h6) (fun r8 h8 => ?_)
    exact drawRight0_en l hl _ _ h8 _ _ _ _ _ _ _ _ _ _ _ _ _ _
  · refine En.bind (below_en l hl _ _ _ h3) (fun r4 h4 => ?_)
    refine En.bind (below_en l hl _ _ _ h4) (fun r5 h5 => ?_)
    refine En.bind (below_en l hl _ _ _ h5) (fun r6 h6 => ?_)
    refine En.bind (some_en (snewFixed_some _ _ _ _ _)) (fun r7 _ => ?_)
    refine En.ite (fun _ => ?_) (fun _ => ?_)
    · refine En.bind (below_en l hl _ _ _ h6) (fun r8 h8 => ?_)
      exact drawRight0_en l hl _ _ h8 _ _ _ _ _ _ _ _ _ _ _ _ _ _
    · exact drawRight0_en l hl _ _ h6 _ _ _ _ _ _ _ _ _ _ _ _ _ _
  · refine En.bind (below_en l hl _ _ _ h3) (fun r4 h4 => ?_)
    refine En.bind (below_en l hl _ _ _ h4) (fun r5 h5 => ?_)
    refine En.bind (some_en (snewFair_some _ _ _ _)) (fun r7 _ => ?_)
    exact drawRight0_en l hl _ _ h5 _ _ _ _ _ _ _ _ _ _ _ _ _ _
theorem pick_some (l : List Int) (hl : l.length ≤ maxLen) (i h : Int) (xs : List Int) (h0 : 0 ≤ i) (hx : 0 < xs.length) : ∃ r i' h', spec_l1PickInt.f l i h xs = some (r, i', h') ∧ 0 ≤ i' ∧ r ∈ xs := by
  unfold spec_l1PickInt.f
  obtain ⟨r, i1, h1, e, p1, r0, r1, _⟩ := below_some l hl i h (xs.length : Int) h0
  have r1 := r1 (by omega)
  rw [e]
  simp only [Option.bind_some]
  rw [if_pos r0, if_pos r1]
  refine ⟨_, _, _, rfl, p1, ?_⟩
  unfold rd
  rw [List.getD_eq_getElem?_getD, List.getElem?_eq_getElem (by omega), Option.getD_some]
  exact List.getElem_mem _
theorem pick_en (l : List Int) (hl : l.length ≤ maxLen) (i h : Int) (x : Int) (xs : List Int) (h0 : 0 ≤ i) : En (fun _ => spec_l1PickInt.f l i h (x :: xs)) (fun r => 0 ≤ r.2.1) := by
  obtain ⟨r, i', h', e, p, _⟩ := pick_some l hl i h (x :: xs) h0 (by simp)
  exact En.of ⟨_, e, p⟩
theorem draw3_en (l : List Int) (hl : l.length ≤ maxLen) (i h : Int) (h0 : 0 ≤ i) : En (fun k => spec_l3Draw.f k l i h) (fun r => 0 ≤ r.2.2.2.2.2.2.2.2.2.2.2.2.2.2.1) := by
  unfold spec_l3Draw.f
  refine En.bind (drawRight_en l hl i h h0) (fun r1 h1 => ?_)
  refine En.bind (below_en l hl _ _ _ h1) (fun r2 h2 => ?_)
  refine En.ite (fun _ => En.bind (pick_en l hl _ _ _ _ h2) (fun r3 h3 => draw3j_en l _ _ h3 _ _ _ _ _ _ _ _ _ _ _ _ _ _)) (fun _ => ?_)
  refine En.ite (fun _ => En.bind (pick_en l hl _ _ _ _ h2) (fun r3 h3 => draw3j_en l _ _ h3 _ _ _ _ _ _ _ _ _ _ _ _ _ _)) (fun _ => ?_)
  refine En.ite (fun _ => En.bind (below_en l hl _ _ _ h2) (fun r3 h3 => draw3j_en l _ _ h3 _ _ _ _ _ _ _ _ _ _ _ _ _ _)) (fun _ => ?_)
  refine En.ite (fun _ => En.bind (below_en l hl _ _ _ h2) (fun r3 h3 => draw3j_en l _ _ h3 _ _ _ _ _ _ _ _ _ _ _ _ _ _)) (fun _ => ?_)
  refine En.ite (fun _ => En.bind (below_en l hl _ _ _ h2) (fun r3 h3 => draw3j_en l _ _ h3 _ _ _ _ _ _ _ _ _ _ _ _ _ _)) (fun _ => ?_)
  refine En.ite (fun _ => En.bind (pick_en l hl _ _ _ _ h2) (fun r3 h3 => draw3j_en l _ _ h3 _ _ _ _ _ _ _ _ _ _ _ _ _ _)) (fun _ => ?_)
  refine En.ite (fun _ => En.bind (pick_en l hl _ _ _ _ h2) (fun r3 h3 => draw3j_en l _ _ h3 _ _ _ _ _ _ _ _ _ _ _ _ _ _)) (fun _ => ?_)
  refine En.ite (fun _ => En.bind (below_en l hl _ _ _ h2) (fun r3 h3 => draw3j_en l _ _ h3 _ _ _ _ _ _ _ _ _ _ _ _ _ _)) (fun _ => ?_)
  exact draw3j_en l _ _ h2 _ _ _ _ _ _ _ _ _ _ _ _ _ _
theorem draw5_loop (l : List Int) (hl : l.length ≤ maxLen) : ∀ (d : Nat) (x i h : Int) (a0 a1 a2 a3 : Int) (a4 : Bool) (a5 a6 a7 a8 a9 a10 a11 a12 a13 : Int), 0 ≤ i → 0 ≤ x → x ≤ 4 → 4 - x = (d : Int) → En (fun k => spec_l5Draw.l0 k x l i h a0 a1 a2 a3 a4 a5 a6 a7 a8 a9 a10 a11 a12 a13) (fun r => 0 ≤ r.2.2.2.2.2.2.2.2.2.2.2.2.2.2.1) := by
  intro d
  induction d with
  | zero =>
    intro x i h a0 a1 a2 a3 a4 a5 a6 a7 a8 a9 a10 a11 a12 a13 h0 hx0 hx hd
    refine En.step (fun k => by simp only [spec_l5Draw.l0]; rfl) ?_
    exact En.ite (fun z => absurd z (by omega)) (fun _ => En.now h0)
  | succ d ih =>
    intro x i h a0 a1 a2 a3 a4 a5 a6 a7 a8 a9 a10 a11 a12 a13 h0 hx0 hx hd
    refine En.step (fun k => by simp only [spec_l5Draw.l0]; rfl) ?_
    refine En.ite (fun _ => ?_) (fun _ => En.now h0)
    refine En.ite (fun _ => En.now h0) (fun _ => ?_)
    refine En.bind (draw3_en l hl _ _ h0) (fun r hr => ?_)
    rw [wr _ (by omega) (by omega)]
    exact ih (x + 1) _ _ _ _ _ _ _ _ _ _ _ _ _ _ _ _ hr (by omega) (by omega) (by omega)
theorem draw5_en (l : List Int) (hl : l.length ≤ maxLen) (i h : Int) (h0 : 0 ≤ i) : En (fun k => spec_l5Draw.f k l i h) (fun r => 0 ≤ r.2.2.2.2.2.2.2.2.2.2.2.2.2.2.1) := by
  unfold spec_l5Draw.f
  refine En.bind (draw3_en l hl _ _ h0) (fun r hr => ?_)
  exact draw5_loop l hl 4 0 _ _ _ _ _ _ _ _ _ _ _ _ _ _ _ _ hr (by omega) (by omega) (by omega)
/-! The cursor over the drawn bytes: whatever it holds, a draw answers. -/
theorem new_loop (l : List Int) (hl : l.length ≤ maxLen) (d : Nat) : ∀ (k : Nat) (h i : Int), 0 ≤ i → (l.length : Int) - i ≤ d → d < k → ∃ h', spec_l1New.l0 k l h i = some (l, 0, h') := by
  unfold maxLen at hl
  induction d with
  | zero =>
    intro k h i h0 hd hk
    obtain ⟨k, rfl⟩ : ∃ m, k = m + 1 := ⟨k - 1, by omega⟩
    exact ⟨h, by simp only [spec_l1New.l0]; rw [if_neg (by omega)]⟩
  | succ d ih =>
    intro k h i h0 hd hk
    obtain ⟨k, rfl⟩ : ∃ m, k = m + 1 := ⟨k - 1, by omega⟩
    simp only [spec_l1New.l0]
    by_cases e : i < (l.length : Int)
    · rw [if_pos e]
      by_cases e2 : i < 4000
      · rw [if_pos e2, if_pos h0, wr (i + 1) (by omega) (by omega)]
        exact ih k _ _ (by omega) (by omega) (by omega)
      · rw [if_neg e2]
        exact ⟨_, rfl⟩
    · rw [if_neg e]
      exact ⟨_, rfl⟩
theorem new_ev (l : List Int) (hl : l.length ≤ maxLen) : ∃ h, Ev (fun k => spec_l1New.f k l) (l, 0, h) := by
  obtain ⟨h, e⟩ := new_loop l hl l.length (l.length + 1) (wrap64 (18511 + (l.length : Int))) 0 (by omega) (by omega) (by omega)
  exact ⟨h, Ev.of (fun k => spec_l1New.mono l k) e⟩
theorem new_en (l : List Int) (hl : l.length ≤ maxLen) : En (fun k => spec_l1New.f k l) (fun r => r.1 = l ∧ 0 ≤ r.2.1) := by
  obtain ⟨h, e⟩ := new_ev l hl
  exact ⟨_, e, rfl, Int.le_refl _⟩
theorem drawFixedSpend_en (l : List Int) (hl : l.length ≤ maxLen) : En (fun k => spec_DrawFixedSpend.f k l) (fun _ => True) := by
  unfold spec_DrawFixedSpend.f
  refine En.bind (new_en l hl) (fun r hr => ?_)
  rw [hr.1]
  refine En.bind (draw5_en l hl _ _ hr.2) (fun s hs => ?_)
  exact En.bind (pick_en l hl _ _ _ _ hs) (fun s _ => En.now trivial)
theorem in_eq (a b c : Int) : impl_in.f a b c = some (decide (b ≤ a ∧ a ≤ c)) := by
  unfold impl_in.f
  by_cases h : a ≥ b
  · rw [if_pos h]; simp [show b ≤ a from h]
  · rw [if_neg h]; simp; omega
theorem isFixed_eq (a0 a1 a2 a3 : Int) (a4 : Bool) (a5 a6 a7 a8 a9 a10 a11 a12 a13 : Int) : impl_isFixed.f a0 a1 a2 a3 a4 a5 a6 a7 a8 a9 a10 a11 a12 a13 = some (decide (TaskP a0 a1 a2 a3 a5 a6 a7 a8 a9 a10 a11 a12 a13 ∧ a1 = 2)) := by
  unfold impl_isFixed.f impl_TaskOk.f
  by_cases h : a1 = 2
  · rw [if_pos h]
    simp [h]
  · rw [if_neg h]
    simp [h]
theorem sisFixed_eq (a0 a1 a2 a3 : Int) (a4 : Bool) (a5 a6 a7 a8 a9 a10 a11 a12 a13 : Int) : spec_l5Fixed.f a0 a1 a2 a3 a4 a5 a6 a7 a8 a9 a10 a11 a12 a13 = some (decide (TaskP a0 a1 a2 a3 a5 a6 a7 a8 a9 a10 a11 a12 a13 ∧ a1 = 2)) := by
  unfold spec_l5Fixed.f spec_TaskOk.f
  simp only [Option.bind_some, decide_eq_true_eq]
  by_cases h : TaskP a0 a1 a2 a3 a5 a6 a7 a8 a9 a10 a11 a12 a13
  · simp [h, dBeq]
  · simp [h]
theorem fixedSpend_eq (k : Nat) (a0 a1 a2 a3 : Int) (a4 : Bool) (a5 a6 a7 a8 a9 a10 a11 a12 a13 : Int) (seq : Int) : impl_FixedSpend.f k a0 a1 a2 a3 a4 a5 a6 a7 a8 a9 a10 a11 a12 a13 seq = spec_FixedSpend.f k a0 a1 a2 a3 a4 a5 a6 a7 a8 a9 a10 a11 a12 a13 seq := by
  unfold impl_FixedSpend.f spec_FixedSpend.f
  simp only [isFixed_eq, sisFixed_eq, in_eq, sin_eq, impl_isSeq.f, Option.bind_some]
  cases k <;> simp only [impl_FixedSpend.j0, spec_FixedSpend.j0, in_eq, sin_eq, impl_isSeq.f, Option.bind_some]
theorem fs_dec (a0 a1 a2 a3 : Int) (a4 : Bool) (a5 a6 a7 a8 a9 a10 a11 a12 a13 : Int) (seq : Int) (h : TaskP a0 a1 a2 a3 a5 a6 a7 a8 a9 a10 a11 a12 a13 ∧ a1 = 2) (h0 : a10 ≠ 0) (h7 : a7 > 1) : Ev (fun k => impl_FixedSpend.f k a0 a1 a2 a3 a4 a5 a6 a7 a8 a9 a10 a11 a12 a13 seq) (a0, a1, a2, a3, a4, a5, a6, a7 - 1, a8, a9, a10, a11, a12, a13, false) := by
  refine Ev.of (fun k => impl_FixedSpend.mono a0 a1 a2 a3 a4 a5 a6 a7 a8 a9 a10 a11 a12 a13 seq k) (k := 1) ?_
  have hb : a7 ≤ 100 := by have := h.1; have := h.2; unfold TaskP at *; omega
  unfold impl_FixedSpend.f
  simp only [isFixed_eq, Option.bind_some, decide_eq_true_eq, impl_FixedSpend.j0, impl_isSeq.f, in_eq]
  rw [if_pos h, if_neg (by simp only [beq_iff_eq]; exact h0), if_pos h7, wr _ (by omega) (by omega)]
theorem fs_no (a0 a1 a2 a3 : Int) (a4 : Bool) (a5 a6 a7 a8 a9 a10 a11 a12 a13 : Int) (seq : Int) (h : ¬ ((TaskP a0 a1 a2 a3 a5 a6 a7 a8 a9 a10 a11 a12 a13 ∧ a1 = 2) ∧ a10 ≠ 0)) : Ev (fun k => impl_FixedSpend.f k a0 a1 a2 a3 a4 a5 a6 a7 a8 a9 a10 a11 a12 a13 seq) (a0, a1, a2, a3, a4, a5, a6, a7, a8, a9, a10, a11, a12, a13, false) := by
  refine Ev.of (fun k => impl_FixedSpend.mono a0 a1 a2 a3 a4 a5 a6 a7 a8 a9 a10 a11 a12 a13 seq k) (k := 1) ?_
  unfold impl_FixedSpend.f
  simp only [isFixed_eq, Option.bind_some, decide_eq_true_eq, impl_FixedSpend.j0, impl_isSeq.f, in_eq]
  by_cases g : TaskP a0 a1 a2 a3 a5 a6 a7 a8 a9 a10 a11 a12 a13 ∧ a1 = 2
  · rw [if_pos g, if_pos (by simp only [beq_iff_eq]; exact Classical.not_not.1 fun z => h ⟨g, z⟩)]
  · rw [if_neg g, if_pos trivial]
theorem fs_stay (a0 a1 a2 a3 : Int) (a4 : Bool) (a5 a6 a7 a8 a9 a10 a11 a12 a13 : Int) (seq : Int) (h : TaskP a0 a1 a2 a3 a5 a6 a7 a8 a9 a10 a11 a12 a13 ∧ a1 = 2) (h0 : a10 ≠ 0) (h7 : ¬ a7 > 1) (hs : ¬ (0 ≤ seq ∧ seq ≤ 1000000)) : Ev (fun k => impl_FixedSpend.f k a0 a1 a2 a3 a4 a5 a6 a7 a8 a9 a10 a11 a12 a13 seq) (a0, a1, a2, a3, a4, a5, a6, a7, a8, a9, a10, a11, a12, a13, false) := by
  refine Ev.of (fun k => impl_FixedSpend.mono a0 a1 a2 a3 a4 a5 a6 a7 a8 a9 a10 a11 a12 a13 seq k) (k := 1) ?_
  unfold impl_FixedSpend.f
  simp only [isFixed_eq, Option.bind_some, decide_eq_true_eq, impl_FixedSpend.j0, impl_isSeq.f, in_eq]
  rw [if_pos h, if_neg (by simp only [beq_iff_eq]; exact h0), if_neg h7, if_neg hs]
theorem fs_turn (a0 a1 a2 a3 : Int) (a4 : Bool) (a5 a6 a7 a8 a9 a10 a11 a12 a13 : Int) (seq : Int) (h : TaskP a0 a1 a2 a3 a5 a6 a7 a8 a9 a10 a11 a12 a13 ∧ a1 = 2) (h0 : a10 ≠ 0) (h7 : ¬ a7 > 1) (hs : 0 ≤ seq ∧ seq ≤ 1000000) : Ev (fun k => impl_FixedSpend.f k a0 a1 a2 a3 a4 a5 a6 a7 a8 a9 a10 a11 a12 a13 seq) (a0, a1, a2, a3, a4, a5, a6, a10, a8, a9, a10, seq, a12, a13, true) := by
  refine Ev.of (fun k => impl_FixedSpend.mono a0 a1 a2 a3 a4 a5 a6 a7 a8 a9 a10 a11 a12 a13 seq k) (k := 1) ?_
  unfold impl_FixedSpend.f
  simp only [isFixed_eq, Option.bind_some, decide_eq_true_eq, impl_FixedSpend.j0, impl_isSeq.f, in_eq]
  rw [if_pos h, if_neg (by simp only [beq_iff_eq]; exact h0), if_neg h7, if_pos hs]
theorem fixed_put (a0 a1 a2 a3 a5 a6 u a8 a9 a10 s a12 a13 v r : Int) (h : TaskP a0 a1 a2 a3 a5 a6 u a8 a9 a10 s a12 a13) (h1 : a1 = 2) (hv : 1 ≤ v ∧ v ≤ a10) (hr : 0 ≤ r ∧ r ≤ 1000000) : TaskP a0 a1 a2 a3 a5 a6 v a8 a9 a10 r a12 a13 := by
  unfold TaskP at h ⊢
  obtain ⟨p1, p2, p3, h | h | h⟩ := h
  · exact absurd h.1 (by omega)
  · obtain ⟨q1, q2, q3, q4, q5, q6, q7, q8, _, _⟩ := h
    exact ⟨p1, p2, p3, .inr (.inl ⟨q1, q2, q3, q4, q5, q6, q7, q8, ⟨.inl hv.1, hv.2⟩, hr⟩)⟩
  · exact absurd h.1 (by omega)
theorem fixed_seq (a0 a1 a2 a3 a5 a6 u a8 a9 a10 s a12 a13 : Int) (h : TaskP a0 a1 a2 a3 a5 a6 u a8 a9 a10 s a12 a13) (h1 : a1 = 2) : (0 ≤ s ∧ s ≤ 1000000) ∧ u ≤ a10 := by
  unfold TaskP at h
  obtain ⟨p1, p2, p3, h | h | h⟩ := h
  · exact absurd h.1 (by omega)
  · exact ⟨h.2.2.2.2.2.2.2.2.2, h.2.2.2.2.2.2.2.2.1.2⟩
  · exact absurd h.1 (by omega)
theorem turns_loop (seq v : Int) (hs : 0 ≤ seq ∧ seq ≤ 1000000) (a0 a1 a2 a3 : Int) (a4 : Bool) (a5 a6 a8 a9 a10 a12 a13 : Int) (h1 : a1 = 2) (hv : 1 ≤ v ∧ v ≤ a10 ∧ a10 ≤ 10) : ∀ (d : Nat) (i x u s : Int), a10 - i = (d : Int) → 0 ≤ i → TaskP a0 a1 a2 a3 a5 a6 u a8 a9 a10 s a12 a13 → ((x = 0 ∧ u + i = v ∧ 1 ≤ u) ∨ (x = 1 ∧ u + i = a10 + v ∧ s = seq)) → Ev (fun k => laws_FnFixedTurns.l0 k seq x i a0 a1 a2 a3 a4 a5 a6 u a8 a9 a10 s a12 a13) true := by
  intro d
  induction d with
  | zero =>
    intro i x u s hd hi ht hc
    refine Ev.step (fun k => by simp only [laws_FnFixedTurns.l0]; rfl) ?_
    rcases hc with hc | hc
    · omega
    · refine evNeg (by omega) (evPos hc.1 (evPos hc.2.2 ?_))
      simp only [impl_TaskOk.f, Option.bind_some]
      exact evEq _ (fun _ => rfl) (congrArg some (decide_eq_true ht))
  | succ d ih =>
    intro i x u s hd hi ht hc
    have e : wrap64 (i + 1) = i + 1 := wr _ (by omega) (by omega)
    refine Ev.step (fun k => by simp only [laws_FnFixedTurns.l0]; rfl) ?_
    refine evPos (by omega) ?_
    by_cases hu : u > 1
    · refine Ev.bind (fs_dec a0 a1 a2 a3 a4 a5 a6 u a8 a9 a10 s a12 a13 seq ⟨ht, h1⟩ (by omega) hu) (evNeg (by simp) ?_)
      rw [e]
      refine ih (i + 1) x (u - 1) s (by omega) (by omega) ?_ ?_
      · have q := fixed_seq _ _ _ _ _ _ _ _ _ _ _ _ _ ht h1
        exact fixed_put _ _ _ _ _ _ _ _ _ _ _ _ _ _ _ ht h1 ⟨by omega, by omega⟩ q.1
      · rcases hc with hc | hc
        · exact .inl ⟨hc.1, by omega, by omega⟩
        · exact .inr ⟨hc.1, by omega, hc.2.2⟩
    · refine Ev.bind (fs_turn a0 a1 a2 a3 a4 a5 a6 u a8 a9 a10 s a12 a13 seq ⟨ht, h1⟩ (by omega) hu hs) (evPos (by simp) ?_)
      have hx : x = 0 ∧ u + i = v ∧ 1 ≤ u := by
        rcases hc with hc | hc
        · exact hc
        · omega
      rw [e, hx.1, wr (0 + 1) (by omega) (by omega)]
      refine ih (i + 1) (0 + 1) a10 seq (by omega) (by omega) ?_ (.inr ⟨by omega, by omega, rfl⟩)
      exact fixed_put _ _ _ _ _ _ _ _ _ _ _ _ _ _ _ ht h1 ⟨by omega, by omega⟩ hs
theorem FnFixedTurns : laws_FnFixedTurns.Pure := by
  intro l hl _ _
  refine Ev.rounds (r := true) ?_
  unfold laws_FnFixedTurns.f laws_big.f
  simp only [Option.bind_some, decide_eq_true_eq]
  by_cases hb : (l.length : Int) > 1048576
  · exact evPos hb (Ev.now _)
  · refine evNeg hb ?_
    obtain ⟨⟨a0, a1, a2, a3, a4, a5, a6, a7, a8, a9, a10, a11, a12, a13, seq⟩, e, _⟩ := drawFixedSpend_en l hl
    refine Ev.bind e ?_
    simp only [← fixedSpend_eq]
    have j0 : ∀ x : Bool, ((TaskP a0 a1 a2 a3 a5 a6 a7 a8 a9 a10 a11 a12 a13 ∧ a1 = 2) ∧ a10 ≠ 0) ∧ 0 ≤ seq ∧ seq ≤ 1000000 → ∀ (b0 b1 b2 b3 : Int) (b4 : Bool) (b5 b6 b7 b8 b9 b10 b11 b12 b13 : Int), Ev (fun k => laws_FnFixedTurns.j0 k seq x false a0 a1 a2 a3 a4 a5 a6 a7 a8 a9 a10 a11 a12 a13 b0 b1 b2 b3 b4 b5 b6 b7 b8 b9 b10 b11 b12 b13) true := by
      intro x h b0 b1 b2 b3 b4 b5 b6 b7 b8 b9 b10 b11 b12 b13
      obtain ⟨⟨⟨ht, h1⟩, h10⟩, hs⟩ := h
      refine Ev.step (fun k => by simp only [laws_FnFixedTurns.j0]; rfl) ?_
      simp only [spec_TaskOk.f, Option.bind_some]
      refine evNeg (by decide) (evPos (decide_eq_true ht) (evPos h1 (evNeg h10 (evNeg (by omega) ?_))))
      rw [decide_eq_false (show ¬ seq > 1000000 by omega)]
      refine Ev.step (fun k => by simp only [laws_FnFixedTurns.j1]; rfl) ?_
      refine evNeg (by decide) ?_
      have hv : 1 ≤ a7 ∧ a7 ≤ a10 ∧ a10 ≤ 10 := by unfold TaskP at ht; omega
      exact turns_loop seq a7 hs a0 a1 a2 a3 a4 a5 a6 a8 a9 a10 a12 a13 h1 hv a10.toNat 0 0 a7 a11 (by omega) (by omega) ht (.inl ⟨rfl, by omega, hv.1⟩)
    have j0n : ¬ (((TaskP a0 a1 a2 a3 a5 a6 a7 a8 a9 a10 a11 a12 a13 ∧ a1 = 2) ∧ a10 ≠ 0) ∧ 0 ≤ seq ∧ seq ≤ 1000000) → ∀ (b0 b1 b2 b3 : Int) (b4 : Bool) (b5 b6 b7 b8 b9 b10 b11 b12 b13 : Int), Ev (fun k => laws_FnFixedTurns.j1 k seq false true a0 a1 a2 a3 a4 a5 a6 a7 a8 a9 a10 a11 a12 a13 b0 b1 b2 b3 b4 b5 b6 b7 b8 b9 b10 b11 b12 b13) true → Ev (fun k => laws_FnFixedTurns.j0 k seq false false a0 a1 a2 a3 a4 a5 a6 a7 a8 a9 a10 a11 a12 a13 b0 b1 b2 b3 b4 b5 b6 b7 b8 b9 b10 b11 b12 b13) true := by
      intro h b0 b1 b2 b3 b4 b5 b6 b7 b8 b9 b10 b11 b12 b13 hj
      refine Ev.step (fun k => by simp only [laws_FnFixedTurns.j0]; rfl) ?_
      simp only [spec_TaskOk.f, Option.bind_some]
      refine evNeg (by decide) ?_
      by_cases ht : TaskP a0 a1 a2 a3 a5 a6 a7 a8 a9 a10 a11 a12 a13
      · refine evPos (decide_eq_true ht) ?_
        by_cases h1 : a1 = 2
        · refine evPos h1 ?_
          by_cases h10 : a10 = 0
          · exact evPos h10 hj
          · refine evNeg h10 ?_
            by_cases hs : seq < 0
            · exact evPos hs hj
            · refine evNeg hs ?_
              rw [decide_eq_true (show seq > 1000000 from Classical.byContradiction fun z => h ⟨⟨⟨ht, h1⟩, h10⟩, by omega, by omega⟩)]
              exact hj
        · exact evNeg h1 hj
      · exact evNeg (by rw [decide_eq_true_eq]; exact ht) hj
    have j1s : Ev (fun k => laws_FnFixedTurns.j1 k seq false true a0 a1 a2 a3 a4 a5 a6 a7 a8 a9 a10 a11 a12 a13 a0 a1 a2 a3 a4 a5 a6 a7 a8 a9 a10 a11 a12 a13) true := by
      refine Ev.step (fun k => by simp only [laws_FnFixedTurns.j1]; rfl) ?_
      refine evPos trivial (evNeg (by decide) (evPos (by simp) (Ev.now _)))
    have j1d : TaskP a0 a1 a2 a3 a5 a6 a7 a8 a9 a10 a11 a12 a13 → a7 > 1 → Ev (fun k => laws_FnFixedTurns.j1 k seq false true a0 a1 a2 a3 a4 a5 a6 a7 a8 a9 a10 a11 a12 a13 a0 a1 a2 a3 a4 a5 a6 (a7 - 1) a8 a9 a10 a11 a12 a13) true := by
      intro ht h7
      refine Ev.step (fun k => by simp only [laws_FnFixedTurns.j1]; rfl) ?_
      refine evPos trivial (evNeg (by decide) (evNeg ?_ ?_))
      · have : (a7 - 1 == a7) = false := by simp only [beq_eq_false_iff_ne]; omega
        simp [this]
      · simp only [spec_TaskOk.f, Option.bind_some]
        exact evPos (decide_eq_true ht) (evEq _ (fun _ => rfl) (congrArg some (decide_eq_true h7)))
    by_cases hc : (TaskP a0 a1 a2 a3 a5 a6 a7 a8 a9 a10 a11 a12 a13 ∧ a1 = 2) ∧ a10 ≠ 0
    · by_cases h7 : a7 > 1
      · have f := fs_dec a0 a1 a2 a3 a4 a5 a6 a7 a8 a9 a10 a11 a12 a13 seq hc.1 hc.2 h7
        refine Ev.bind f (Ev.bind f ?_)
        refine evNeg (by simp) ?_
        rw [show ((false : Bool) != false) = false from rfl]
        by_cases hs : 0 ≤ seq ∧ seq ≤ 1000000
        · exact j0 false ⟨hc, hs⟩ _ _ _ _ _ _ _ _ _ _ _ _ _ _
        · exact j0n (fun z => hs z.2) _ _ _ _ _ _ _ _ _ _ _ _ _ _ (j1d hc.1.1 h7)
      · by_cases hs : 0 ≤ seq ∧ seq ≤ 1000000
        · have f := fs_turn a0 a1 a2 a3 a4 a5 a6 a7 a8 a9 a10 a11 a12 a13 seq hc.1 hc.2 h7 hs
          refine Ev.bind f (Ev.bind f ?_)
          refine evNeg (by simp) ?_
          rw [show ((true : Bool) != true) = false from rfl]
          exact j0 true ⟨hc, hs⟩ _ _ _ _ _ _ _ _ _ _ _ _ _ _
        · have f := fs_stay a0 a1 a2 a3 a4 a5 a6 a7 a8 a9 a10 a11 a12 a13 seq hc.1 hc.2 h7 hs
          refine Ev.bind f (Ev.bind f ?_)
          refine evNeg (by simp) ?_
          rw [show ((false : Bool) != false) = false from rfl]
          exact j0n (fun z => hs z.2) _ _ _ _ _ _ _ _ _ _ _ _ _ _ j1s
    · have f := fs_no a0 a1 a2 a3 a4 a5 a6 a7 a8 a9 a10 a11 a12 a13 seq hc
      refine Ev.bind f (Ev.bind f ?_)
      refine evNeg (by simp) ?_
      rw [show ((false : Bool) != false) = false from rfl]
      exact j0n (fun z => hc z.1) _ _ _ _ _ _ _ _ _ _ _ _ _ _ j1s

end Go.Proofs.Ytphkgmdbdnjmbaa.Pure
