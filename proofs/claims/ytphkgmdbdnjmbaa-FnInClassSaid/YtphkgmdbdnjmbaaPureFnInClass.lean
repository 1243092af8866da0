/- The pure statement of FnInClass, over numbers and lists: of two drawn tasks of one class the earlier deadline, the greater priority, the lesser had is before. Conditions: those of the statement (the drawn bytes lie in memory). -/
import Derived.Test.YtphkgmdbdnjmbaaPrintLawsFnInClass
set_option linter.unusedVariables false
set_option linter.unusedSimpArgs false
namespace Go.Proofs.Ytphkgmdbdnjmbaa.Pure
open Go.RowKit Go.Proofs.Ytphkgmdbdnjmbaa.Print Go.Proofs.YtphkgmdbdnjmbaaW.PrintWords Go.Proofs.YtphkgmdbdnjmbaaW.PrintLast Go.Proofs.YtphkgmdbdnjmbaaW.PrintMore Go.Proofs.Ytphkgmdbdnjmbaa.Base

/-! A draw answers, and with what. -/
def En {α : Type} (f : Nat → Option α) (Q : α → Prop) : Prop := ∃ r, Ev f r ∧ Q r
theorem En.bind {α β : Type} {f : Nat → Option α} {P : α → Prop} {g : α → Nat → Option β} {Q : β → Prop} (h : En f P) (hg : ∀ r, P r → En (fun k => g r k) Q) : En (fun k => (f k).bind (fun r => g r k)) Q := by
  obtain ⟨r, e, p⟩ := h
  obtain ⟨s, e2, q⟩ := hg r p
  exact ⟨s, Ev.bind e e2, q⟩
theorem En.now {α : Type} {r : α} {Q : α → Prop} (h : Q r) : En (fun _ => some r) Q := ⟨r, Ev.now r, h⟩
theorem En.ite {α : Type} {c : Prop} [Decidable c] {f g : Nat → Option α} {Q : α → Prop} (h : c → En f Q) (h' : ¬ c → En g Q) : En (fun k => if c then f k else g k) Q := by
  by_cases hc : c
  · obtain ⟨r, e, q⟩ := h hc
    exact ⟨r, evPos hc e, q⟩
  · obtain ⟨r, e, q⟩ := h' hc
    exact ⟨r, evNeg hc e, q⟩
theorem En.of {α : Type} {o : Option α} {P : α → Prop} (h : ∃ r, o = some r ∧ P r) : En (fun _ => o) P := by
  obtain ⟨r, e, p⟩ := h
  exact ⟨r, ⟨0, fun _ _ => e⟩, p⟩
theorem and255 (x : Int) : 0 ≤ Go.bits .and .i64 x 255 ∧ Go.bits .and .i64 x 255 ≤ 255 := by
  have e : Go.bits .and .i64 x 255 = IntKind.i64.wrap (((BitVec.ofInt 64 x) &&& (BitVec.ofInt 64 255)).toNat : Nat) := rfl
  have h : ((BitVec.ofInt 64 x) &&& (BitVec.ofInt 64 255)).toNat ≤ 255 := by rw [BitVec.toNat_and]; exact Nat.and_le_right
  rw [e, IntKind.wrap_i64]
  omega
theorem byte_some (l : List Int) (hl : l.length ≤ maxLen) (i h : Int) (h0 : 0 ≤ i) : ∃ b i' h', spec_l1Byte.f l i h = some (b, i', h') ∧ 0 ≤ b ∧ b ≤ 255 ∧ 0 ≤ i' := by
  unfold maxLen at hl
  unfold spec_l1Byte.f
  by_cases e : i < (l.length : Int)
  · rw [if_pos e, if_pos h0, wr (i + 1) (by omega) (by omega)]
    exact ⟨_, _, _, rfl, (and255 _).1, (and255 _).2, by omega⟩
  · rw [if_neg e]
    exact ⟨_, _, _, rfl, (and255 _).1, (and255 _).2, by omega⟩
theorem below_some (l : List Int) (hl : l.length ≤ maxLen) (i h n : Int) (h0 : 0 ≤ i) : ∃ r i' h', spec_l1Below.f l i h n = some (r, i', h') ∧ 0 ≤ i' ∧ 0 ≤ r ∧ (0 < n → r < n) ∧ (n ≤ 0 → r = 0) := by
  unfold spec_l1Below.f
  by_cases e : n ≤ 0
  · rw [if_pos e]
    exact ⟨_, _, _, rfl, h0, by omega, by omega, by omega⟩
  · rw [if_neg e]
    obtain ⟨b, i1, h1, e1, b0, b1, p1⟩ := byte_some l hl i h h0
    by_cases e2 : n ≤ 256
    · rw [if_pos e2, e1]
      simp only [Option.bind_some]
      rw [if_neg (by omega)]
      have := Int.tmod_nonneg n b0
      have := Int.tmod_lt_of_pos b (show 0 < n by omega)
      exact ⟨_, _, _, rfl, p1, by omega, by omega, by omega⟩
    · rw [if_neg e2, e1]
      simp only [Option.bind_some]
      obtain ⟨c, i2, h2, e3, c0, c1, p2⟩ := byte_some l hl i1 h1 p1
      rw [e3]
      simp only [Option.bind_some]
      obtain ⟨d, i3, h3, e4, d0, d1, p3⟩ := byte_some l hl i2 h2 p2
      rw [e4]
      simp only [Option.bind_some]
      obtain ⟨f, i4, h4, e5, f0, f1, p4⟩ := byte_some l hl i3 h3 p3
      rw [e5]
      simp only [Option.bind_some]
      rw [if_neg (by omega), wr (b * 16777216) (by omega) (by omega), wr (c * 65536) (by omega) (by omega), wr (d * 256) (by omega) (by omega), wr (b * 16777216 + c * 65536) (by omega) (by omega), wr (b * 16777216 + c * 65536 + d * 256) (by omega) (by omega), wr (b * 16777216 + c * 65536 + d * 256 + f) (by omega) (by omega)]
      have := Int.tmod_nonneg n (show 0 ≤ b * 16777216 + c * 65536 + d * 256 + f by omega)
      have := Int.tmod_lt_of_pos (b * 16777216 + c * 65536 + d * 256 + f) (show 0 < n by omega)
      exact ⟨_, _, _, rfl, p4, by omega, by omega, by omega⟩
theorem below_en (l : List Int) (hl : l.length ≤ maxLen) (i h n : Int) (h0 : 0 ≤ i) : En (fun _ => spec_l1Below.f l i h n) (fun r => 0 ≤ r.2.1) := by
  obtain ⟨r, i', h', e, p, _⟩ := below_some l hl i h n h0
  exact En.of ⟨_, e, p⟩
theorem En.step {α : Type} {f g : Nat → Option α} {Q : α → Prop} (h : ∀ k, f (k + 1) = g k) (e : En g Q) : En f Q := by
  obtain ⟨r, e, q⟩ := e
  exact ⟨r, Ev.step h e, q⟩
theorem draw3j_en (l : List Int) (i h : Int) (h0 : 0 ≤ i) (a0 a1 a2 a3 : Int) (a4 : Bool) (a5 a6 a7 a8 a9 a10 a11 a12 a13 : Int) : En (fun k => spec_l3Draw.j0 k l i h a0 a1 a2 a3 a4 a5 a6 a7 a8 a9 a10 a11 a12 a13) (fun r => 0 ≤ r.2.2.2.2.2.2.2.2.2.2.2.2.2.2.1) := by
  refine En.step (fun k => by simp only [spec_l3Draw.j0]; rfl) ?_
  exact En.now h0
theorem once_some (l : List Int) (hl : l.length ≤ maxLen) (i h n : Int) (h0 : 0 ≤ i) : ∃ b i' h', spec_l1Once.f l i h n = some (b, i', h') ∧ 0 ≤ i' := by
  obtain ⟨r, i', h', e, p, _⟩ := below_some l hl i h n h0
  exact ⟨r == 0, i', h', by unfold spec_l1Once.f; rw [e]; rfl, p⟩
theorem once_en (l : List Int) (hl : l.length ≤ maxLen) (i h n : Int) (h0 : 0 ≤ i) : En (fun _ => spec_l1Once.f l i h n) (fun r => 0 ≤ r.2.1) := by
  obtain ⟨r, i', h', e, p⟩ := once_some l hl i h n h0
  exact En.of ⟨_, e, p⟩
theorem drawRight0_en (l : List Int) (hl : l.length ≤ maxLen) (i h : Int) (h0 : 0 ≤ i) (a0 a1 a2 a3 : Int) (a4 : Bool) (a5 a6 a7 a8 a9 a10 a11 a12 a13 : Int) : En (fun k => spec_l3DrawRight.j0 k l i h a0 a1 a2 a3 a4 a5 a6 a7 a8 a9 a10 a11 a12 a13) (fun r => 0 ≤ r.2.2.2.2.2.2.2.2.2.2.2.2.2.2.1) := by
  refine En.step (fun k => by simp only [spec_l3DrawRight.j0]; rfl) ?_
  refine En.bind (once_en l hl _ _ _ h0) (fun r hr => ?_)
  refine En.ite (fun _ => ?_) (fun _ => ?_)
  all_goals
    refine En.bind (once_en l hl _ _ _ hr) (fun s hs => ?_)
    exact En.now hs
theorem sin_eq (a b c : Int) : spec_l1In.f a b c = some (decide (b ≤ a ∧ a ≤ c)) := by
  unfold spec_l1In.f
  by_cases h : a ≥ b
  · rw [if_pos h]; simp [show b ≤ a from h]
  · rw [if_neg h]; simp; omega
theorem snew_some (a0 a1 a2 a3 : Int) (a4 : Bool) (a5 a6 a7 a8 a9 a10 a11 a12 a13 : Int) : ∃ r, spec_l3New.f a0 a1 a2 a3 a4 a5 a6 a7 a8 a9 a10 a11 a12 a13 = some r := by
  unfold spec_l3New.f spec_TaskOk.f
  simp only [Option.bind_some]
  split <;> exact ⟨_, rfl⟩
theorem sshare_eq (q p : Int) : spec_ShareOk.f q p = some (decide (ShareP q p)) := by
  unfold spec_ShareOk.f ShareP
  simp only [sin_eq, Option.bind_some, decide_eq_true_eq]
  by_cases h : 1 ≤ p ∧ p ≤ 40
  · simp only [h, and_self, if_true, true_and]
  · simp only [h, if_false, false_and, decide_false]
theorem snewDue_some (no cpu q p now : Int) : ∃ r, spec_NewDue.f no cpu q p now = some r := by
  unfold spec_NewDue.f
  obtain ⟨r, hr⟩ := snew_some no 1 cpu 1 false q p q (wrap64 (now + p)) 0 0 0 0 0
  simp only [sin_eq, sshare_eq, hr, Option.bind_some]
  repeat' split
  all_goals exact ⟨_, rfl⟩
theorem snewFair_some (no cpu nice v : Int) : ∃ r, spec_NewFair.f no cpu nice v = some r := by
  unfold spec_NewFair.f
  obtain ⟨r, hr⟩ := snew_some no 3 cpu 1 false 0 0 0 0 0 0 0 nice v
  simp only [hr, Option.bind_some]
  exact ⟨_, rfl⟩
theorem snewFixed_some (no cpu prio round seq : Int) : ∃ r, spec_NewFixed.f no cpu prio round seq = some r := by
  unfold spec_NewFixed.f
  obtain ⟨r, hr⟩ := snew_some no 2 cpu 1 false 0 0 round 0 prio round seq 0 0
  simp only [hr, Option.bind_some]
  exact ⟨_, rfl⟩
theorem some_en {α : Type} {o : Option α} (h : ∃ r, o = some r) : En (fun _ => o) (fun _ => True) := by
  obtain ⟨r, e⟩ := h
  exact En.of ⟨r, e, trivial⟩
theorem drawRight_en (l : List Int) (hl : l.length ≤ maxLen) (i h : Int) (h0 : 0 ≤ i) : En (fun k => spec_l3DrawRight.f k l i h) (fun r => 0 ≤ r.2.2.2.2.2.2.2.2.2.2.2.2.2.2.1) := by
  unfold spec_l3DrawRight.f
  refine En.bind (below_en l hl _ _ _ h0) (fun r1 h1 => ?_)
  refine En.bind (below_en l hl _ _ _ h1) (fun r2 h2 => ?_)
  refine En.bind (below_en l hl _ _ _ h2) (fun r3 h3 => ?_)
  refine En.ite (fun _ => ?_) (fun _ => En.ite (fun _ => ?_) (fun _ => ?_))
  · refine En.bind (below_en l hl _ _ _ h3) (fun r4 h4 => ?_)
    refine En.bind (below_en l hl _ _ _ h4) (fun r5 h5 => ?_)
    refine En.bind (below_en l hl _ _ _ h5) (fun r6 h6 => ?_)
    refine En.bind (some_en (snewDue_some _ _ _ _ _)) (fun r7 _ => ?_)
    refine En.bind (below_en l hl _ _ _ h6) (fun r8 h8 => ?_)
    exact drawRight0_en l hl _ _ h8 _ _ _ _ _ _ _ _ _ _ _ _ _ _
  · refine En.bind (below_en l hl _ _ _ h3) (fun r4 h4 => ?_)
    refine En.bind (below_en l hl _ _ _ h4) (fun r5 h5 => ?_)
    refine En.bind (below_en l hl _ _ _ h5) (fun r6 h6 => ?_)
    refine En.bind (some_en (snewFixed_some _ _ _ _ _)) (fun r7 _ => ?_)
    refine En.ite (fun _ => ?_) (fun _ => ?_)
    · refine En.bind (below_en l hl _ _ _ h6) (fun r8 h8 => ?_)
      exact drawRight0_en l hl _ _ h8 _ _ _ _ _ _ _ _ _ _ _ _ _ _
    · exact drawRight0_en l hl _ _ h6 _ _ _ _ _ _ _ _ _ _ _ _ _ _
  · refine En.bind (below_en l hl _ _ _ h3) (fun r4 h4 => ?_)
    refine En.bind (below_en l hl _ _ _ h4) (fun r5 h5 => ?_)
    refine En.bind (some_en (snewFair_some _ _ _ _)) (fun r7 _ => ?_)
    exact drawRight0_en l hl _ _ h5 _ _ _ _ _ _ _ _ _ _ _ _ _ _
theorem pick_some (l : List Int) (hl : l.length ≤ maxLen) (i h : Int) (xs : List Int) (h0 : 0 ≤ i) (hx : 0 < xs.length) : ∃ r i' h', spec_l1PickInt.f l i h xs = some (r, i', h') ∧ 0 ≤ i' ∧ r ∈ xs := by
  unfold spec_l1PickInt.f
  obtain ⟨r, i1, h1, e, p1, r0, r1, _⟩ := below_some l hl i h (xs.length : Int) h0
  have r1 := r1 (by omega)
  rw [e]
  simp only [Option.bind_some]
  rw [if_pos r0, if_pos r1]
  refine ⟨_, _, _, rfl, p1, ?_⟩
  unfold rd
  rw [List.getD_eq_getElem?_getD, List.getElem?_eq_getElem (by omega), Option.getD_some]
  exact List.getElem_mem _
theorem pick_en (l : List Int) (hl : l.length ≤ maxLen) (i h : Int) (x : Int) (xs : List Int) (h0 : 0 ≤ i) : En (fun _ => spec_l1PickInt.f l i h (x :: xs)) (fun r => 0 ≤ r.2.1) := by
  obtain ⟨r, i', h', e, p, _⟩ := pick_some l hl i h (x :: xs) h0 (by simp)
  exact En.of ⟨_, e, p⟩
theorem draw3_en (l : List Int) (hl : l.length ≤ maxLen) (i h : Int) (h0 : 0 ≤ i) : En (fun k => spec_l3Draw.f k l i h) (fun r => 0 ≤ r.2.2.2.2.2.2.2.2.2.2.2.2.2.2.1) := by
  unfold spec_l3Draw.f
  refine En.bind (drawRight_en l hl i h h0) (fun r1 h1 => ?_)
  refine En.bind (below_en l hl _ _ _ h1) (fun r2 h2 => ?_)
  refine En.ite (fun _ => En.bind (pick_en l hl _ _ _ _ h2) (fun r3 h3 => draw3j_en l _ _ h3 _ _ _ _ _ _ _ _ _ _ _ _ _ _)) (fun _ => ?_)
  refine En.ite (fun _ => En.bind (pick_en l hl _ _ _ _ h2) (fun r3 h3 => draw3j_en l _ _ h3 _ _ _ _ _ _ _ _ _ _ _ _ _ _)) (fun _ => ?_)
  refine En.ite (fun _ => En.bind (below_en l hl _ _ _ h2) (fun r3 h3 => draw3j_en l _ _ h3 _ _ _ _ _ _ _ _ _ _ _ _ _ _)) (fun _ => ?_)
  refine En.ite (fun _ => En.bind (below_en l hl _ _ _ h2) (fun r3 h3 => draw3j_en l _ _ h3 _ _ _ _ _ _ _ _ _ _ _ _ _ _)) (fun _ => ?_)
  refine En.ite (fun _ => En.bind (below_en l hl _ _ _ h2) (fun r3 h3 => draw3j_en l _ _ h3 _ _ _ _ _ _ _ _ _ _ _ _ _ _)) (fun _ => ?_)
  refine En.ite (fun _ => En.bind (pick_en l hl _ _ _ _ h2) (fun r3 h3 => draw3j_en l _ _ h3 _ _ _ _ _ _ _ _ _ _ _ _ _ _)) (fun _ => ?_)
  refine En.ite (fun _ => En.bind (pick_en l hl _ _ _ _ h2) (fun r3 h3 => draw3j_en l _ _ h3 _ _ _ _ _ _ _ _ _ _ _ _ _ _)) (fun _ => ?_)
  refine En.ite (fun _ => En.bind (below_en l hl _ _ _ h2) (fun r3 h3 => draw3j_en l _ _ h3 _ _ _ _ _ _ _ _ _ _ _ _ _ _)) (fun _ => ?_)
  exact draw3j_en l _ _ h2 _ _ _ _ _ _ _ _ _ _ _ _ _ _
theorem draw4_loop (l : List Int) (hl : l.length ≤ maxLen) : ∀ (d : Nat) (x i h : Int) (a0 a1 a2 a3 : Int) (a4 : Bool) (a5 a6 a7 a8 a9 a10 a11 a12 a13 : Int), 0 ≤ i → 0 ≤ x → x ≤ 4 → 4 - x = (d : Int) → En (fun k => spec_l4Draw.l0 k x l i h a0 a1 a2 a3 a4 a5 a6 a7 a8 a9 a10 a11 a12 a13) (fun r => 0 ≤ r.2.2.2.2.2.2.2.2.2.2.2.2.2.2.1) := by
  intro d
  induction d with
  | zero =>
    intro x i h a0 a1 a2 a3 a4 a5 a6 a7 a8 a9 a10 a11 a12 a13 h0 hx0 hx hd
    refine En.step (fun k => by simp only [spec_l4Draw.l0]; rfl) ?_
    exact En.ite (fun z => absurd z (by omega)) (fun _ => En.now h0)
  | succ d ih =>
    intro x i h a0 a1 a2 a3 a4 a5 a6 a7 a8 a9 a10 a11 a12 a13 h0 hx0 hx hd
    refine En.step (fun k => by simp only [spec_l4Draw.l0]; rfl) ?_
    refine En.ite (fun _ => ?_) (fun _ => En.now h0)
    refine En.ite (fun _ => En.now h0) (fun _ => ?_)
    refine En.bind (draw3_en l hl _ _ h0) (fun r hr => ?_)
    rw [wr _ (by omega) (by omega)]
    exact ih (x + 1) _ _ _ _ _ _ _ _ _ _ _ _ _ _ _ _ hr (by omega) (by omega) (by omega)
theorem draw4_en (l : List Int) (hl : l.length ≤ maxLen) (i h : Int) (h0 : 0 ≤ i) : En (fun k => spec_l4Draw.f k l i h) (fun r => 0 ≤ r.2.2.2.2.2.2.2.2.2.2.2.2.2.2.1) := by
  unfold spec_l4Draw.f
  refine En.bind (draw3_en l hl _ _ h0) (fun r hr => ?_)
  exact draw4_loop l hl 4 0 _ _ _ _ _ _ _ _ _ _ _ _ _ _ _ _ hr (by omega) (by omega) (by omega)
/-! The cursor over the drawn bytes: whatever it holds, a draw answers. -/
theorem new_loop (l : List Int) (hl : l.length ≤ maxLen) (d : Nat) : ∀ (k : Nat) (h i : Int), 0 ≤ i → (l.length : Int) - i ≤ d → d < k → ∃ h', spec_l1New.l0 k l h i = some (l, 0, h') := by
  unfold maxLen at hl
  induction d with
  | zero =>
    intro k h i h0 hd hk
    obtain ⟨k, rfl⟩ : ∃ m, k = m + 1 := ⟨k - 1, by omega⟩
    exact ⟨h, by simp only [spec_l1New.l0]; rw [if_neg (by omega)]⟩
  | succ d ih =>
    intro k h i h0 hd hk
    obtain ⟨k, rfl⟩ : ∃ m, k = m + 1 := ⟨k - 1, by omega⟩
    simp only [spec_l1New.l0]
    by_cases e : i < (l.length : Int)
    · rw [if_pos e]
      by_cases e2 : i < 4000
      · rw [if_pos e2, if_pos h0, wr (i + 1) (by omega) (by omega)]
        exact ih k _ _ (by omega) (by omega) (by omega)
      · rw [if_neg e2]
        exact ⟨_, rfl⟩
    · rw [if_neg e]
      exact ⟨_, rfl⟩
theorem new_ev (l : List Int) (hl : l.length ≤ maxLen) : ∃ h, Ev (fun k => spec_l1New.f k l) (l, 0, h) := by
  obtain ⟨h, e⟩ := new_loop l hl l.length (l.length + 1) (wrap64 (18511 + (l.length : Int))) 0 (by omega) (by omega) (by omega)
  exact ⟨h, Ev.of (fun k => spec_l1New.mono l k) e⟩
theorem new_en (l : List Int) (hl : l.length ≤ maxLen) : En (fun k => spec_l1New.f k l) (fun r => r.1 = l ∧ 0 ≤ r.2.1) := by
  obtain ⟨h, e⟩ := new_ev l hl
  exact ⟨_, e, rfl, Int.le_refl _⟩
theorem drawDueBefore_en (l : List Int) (hl : l.length ≤ maxLen) : En (fun k => spec_DrawDueBefore.f k l) (fun _ => True) := by
  unfold spec_DrawDueBefore.f
  refine En.bind (new_en l hl) (fun r hr => ?_)
  rw [hr.1]
  refine En.bind (draw4_en l hl _ _ hr.2) (fun s hs => ?_)
  exact En.bind (draw4_en l hl _ _ hs) (fun s _ => En.now trivial)
theorem draw6_loop (l : List Int) (hl : l.length ≤ maxLen) : ∀ (d : Nat) (x i h : Int) (a0 a1 a2 a3 : Int) (a4 : Bool) (a5 a6 a7 a8 a9 a10 a11 a12 a13 : Int), 0 ≤ i → 0 ≤ x → x ≤ 4 → 4 - x = (d : Int) → En (fun k => spec_l6Draw.l0 k x l i h a0 a1 a2 a3 a4 a5 a6 a7 a8 a9 a10 a11 a12 a13) (fun r => 0 ≤ r.2.2.2.2.2.2.2.2.2.2.2.2.2.2.1) := by
  intro d
  induction d with
  | zero =>
    intro x i h a0 a1 a2 a3 a4 a5 a6 a7 a8 a9 a10 a11 a12 a13 h0 hx0 hx hd
    refine En.step (fun k => by simp only [spec_l6Draw.l0]; rfl) ?_
    exact En.ite (fun z => absurd z (by omega)) (fun _ => En.now h0)
  | succ d ih =>
    intro x i h a0 a1 a2 a3 a4 a5 a6 a7 a8 a9 a10 a11 a12 a13 h0 hx0 hx hd
    refine En.step (fun k => by simp only [spec_l6Draw.l0]; rfl) ?_
    refine En.ite (fun _ => ?_) (fun _ => En.now h0)
    refine En.ite (fun _ => En.now h0) (fun _ => ?_)
    refine En.bind (draw3_en l hl _ _ h0) (fun r hr => ?_)
    rw [wr _ (by omega) (by omega)]
    exact ih (x + 1) _ _ _ _ _ _ _ _ _ _ _ _ _ _ _ _ hr (by omega) (by omega) (by omega)
theorem draw6_en (l : List Int) (hl : l.length ≤ maxLen) (i h : Int) (h0 : 0 ≤ i) : En (fun k => spec_l6Draw.f k l i h) (fun r => 0 ≤ r.2.2.2.2.2.2.2.2.2.2.2.2.2.2.1) := by
  unfold spec_l6Draw.f
  refine En.bind (draw3_en l hl _ _ h0) (fun r hr => ?_)
  exact draw6_loop l hl 4 0 _ _ _ _ _ _ _ _ _ _ _ _ _ _ _ _ hr (by omega) (by omega) (by omega)
theorem drawFairBefore_en (l : List Int) (hl : l.length ≤ maxLen) : En (fun k => spec_DrawFairBefore.f k l) (fun _ => True) := by
  unfold spec_DrawFairBefore.f
  refine En.bind (new_en l hl) (fun r hr => ?_)
  rw [hr.1]
  refine En.bind (draw6_en l hl _ _ hr.2) (fun s hs => ?_)
  exact En.bind (draw6_en l hl _ _ hs) (fun s _ => En.now trivial)
theorem draw5_loop (l : List Int) (hl : l.length ≤ maxLen) : ∀ (d : Nat) (x i h : Int) (a0 a1 a2 a3 : Int) (a4 : Bool) (a5 a6 a7 a8 a9 a10 a11 a12 a13 : Int), 0 ≤ i → 0 ≤ x → x ≤ 4 → 4 - x = (d : Int) → En (fun k => spec_l5Draw.l0 k x l i h a0 a1 a2 a3 a4 a5 a6 a7 a8 a9 a10 a11 a12 a13) (fun r => 0 ≤ r.2.2.2.2.2.2.2.2.2.2.2.2.2.2.1) := by
  intro d
  induction d with
  | zero =>
    intro x i h a0 a1 a2 a3 a4 a5 a6 a7 a8 a9 a10 a11 a12 a13 h0 hx0 hx hd
    refine En.step (fun k => by simp only [spec_l5Draw.l0]; rfl) ?_
    exact En.ite (fun z => absurd z (by omega)) (fun _ => En.now h0)
  | succ d ih =>
    intro x i h a0 a1 a2 a3 a4 a5 a6 a7 a8 a9 a10 a11 a12 a13 h0 hx0 hx hd
    refine En.step (fun k => by simp only [spec_l5Draw.l0]; rfl) ?_
    refine En.ite (fun _ => ?_) (fun _ => En.now h0)
    refine En.ite (fun _ => En.now h0) (fun _ => ?_)
    refine En.bind (draw3_en l hl _ _ h0) (fun r hr => ?_)
    rw [wr _ (by omega) (by omega)]
    exact ih (x + 1) _ _ _ _ _ _ _ _ _ _ _ _ _ _ _ _ hr (by omega) (by omega) (by omega)
theorem draw5_en (l : List Int) (hl : l.length ≤ maxLen) (i h : Int) (h0 : 0 ≤ i) : En (fun k => spec_l5Draw.f k l i h) (fun r => 0 ≤ r.2.2.2.2.2.2.2.2.2.2.2.2.2.2.1) := by
  unfold spec_l5Draw.f
  refine En.bind (draw3_en l hl _ _ h0) (fun r hr => ?_)
  exact draw5_loop l hl 4 0 _ _ _ _ _ _ _ _ _ _ _ _ _ _ _ _ hr (by omega) (by omega) (by omega)
theorem drawFixedBefore_en (l : List Int) (hl : l.length ≤ maxLen) : En (fun k => spec_DrawFixedBefore.f k l) (fun _ => True) := by
  unfold spec_DrawFixedBefore.f
  refine En.bind (new_en l hl) (fun r hr => ?_)
  rw [hr.1]
  refine En.bind (draw5_en l hl _ _ hr.2) (fun s hs => ?_)
  exact En.bind (draw5_en l hl _ _ hs) (fun s _ => En.now trivial)
/-! A task as one value, and who stands ahead of whom. -/
structure Tk where
  (f0 f1 f2 f3 : Int)
  f4 : Bool
  (f5 f6 f7 f8 f9 f10 f11 f12 f13 : Int)
def Tk.ok (t : Tk) : Prop := TaskP t.f0 t.f1 t.f2 t.f3 t.f5 t.f6 t.f7 t.f8 t.f9 t.f10 t.f11 t.f12 t.f13
instance (t : Tk) : Decidable (Tk.ok t) := by unfold Tk.ok; infer_instance
def dueLt (a b : Tk) : Prop := (Tk.ok a ∧ a.f1 = 1) ∧ (Tk.ok b ∧ b.f1 = 1) ∧ (a.f8 < b.f8 ∨ a.f8 = b.f8 ∧ a.f0 < b.f0)
instance (a b : Tk) : Decidable (dueLt a b) := by unfold dueLt; infer_instance
theorem sisDue_eq (a0 a1 a2 a3 : Int) (a4 : Bool) (a5 a6 a7 a8 a9 a10 a11 a12 a13 : Int) : spec_l4Due.f a0 a1 a2 a3 a4 a5 a6 a7 a8 a9 a10 a11 a12 a13 = some (decide (TaskP a0 a1 a2 a3 a5 a6 a7 a8 a9 a10 a11 a12 a13 ∧ a1 = 1)) := by
  unfold spec_l4Due.f spec_TaskOk.f
  simp only [Option.bind_some, decide_eq_true_eq]
  by_cases h : TaskP a0 a1 a2 a3 a5 a6 a7 a8 a9 a10 a11 a12 a13
  · simp [h, dBeq]
  · simp [h]
theorem dueB (a0 a1 a2 a3 : Int) (a4 : Bool) (a5 a6 a7 a8 a9 a10 a11 a12 a13 : Int) (b0 b1 b2 b3 : Int) (b4 : Bool) (b5 b6 b7 b8 b9 b10 b11 b12 b13 : Int) : spec_DueBefore.f a0 a1 a2 a3 a4 a5 a6 a7 a8 a9 a10 a11 a12 a13 b0 b1 b2 b3 b4 b5 b6 b7 b8 b9 b10 b11 b12 b13 = some (decide (dueLt ⟨a0, a1, a2, a3, a4, a5, a6, a7, a8, a9, a10, a11, a12, a13⟩ ⟨b0, b1, b2, b3, b4, b5, b6, b7, b8, b9, b10, b11, b12, b13⟩)) := by
  unfold spec_DueBefore.f dueLt Tk.ok
  simp only [sisDue_eq, Option.bind_some, decide_eq_true_eq, dFalse, dTrue, dIte]
  refine congrArg some (decide_eq_decide.2 ?_)
  generalize (TaskP a0 a1 a2 a3 a5 a6 a7 a8 a9 a10 a11 a12 a13 ∧ a1 = 1) = P
  generalize (TaskP b0 b1 b2 b3 b5 b6 b7 b8 b9 b10 b11 b12 b13 ∧ b1 = 1) = Q
  by_cases h : P <;> by_cases g : Q <;> simp only [h, g, true_and, false_and, and_false, and_true, not_true_eq_false, not_false_eq_true, or_false]
  omega
theorem isDue_eq (a0 a1 a2 a3 : Int) (a4 : Bool) (a5 a6 a7 a8 a9 a10 a11 a12 a13 : Int) : impl_isDue.f a0 a1 a2 a3 a4 a5 a6 a7 a8 a9 a10 a11 a12 a13 = some (decide (TaskP a0 a1 a2 a3 a5 a6 a7 a8 a9 a10 a11 a12 a13 ∧ a1 = 1)) := by
  unfold impl_isDue.f impl_TaskOk.f
  by_cases h : a1 = 1
  · rw [if_pos h]
    simp [h]
  · rw [if_neg h]
    simp [h]
theorem dueBefore_eq (a0 a1 a2 a3 : Int) (a4 : Bool) (a5 a6 a7 a8 a9 a10 a11 a12 a13 : Int) (b0 b1 b2 b3 : Int) (b4 : Bool) (b5 b6 b7 b8 b9 b10 b11 b12 b13 : Int) : impl_DueBefore.f a0 a1 a2 a3 a4 a5 a6 a7 a8 a9 a10 a11 a12 a13 b0 b1 b2 b3 b4 b5 b6 b7 b8 b9 b10 b11 b12 b13 = spec_DueBefore.f a0 a1 a2 a3 a4 a5 a6 a7 a8 a9 a10 a11 a12 a13 b0 b1 b2 b3 b4 b5 b6 b7 b8 b9 b10 b11 b12 b13 := by
  unfold impl_DueBefore.f spec_DueBefore.f
  simp only [isDue_eq, sisDue_eq]
theorem iDue_ev (a0 a1 a2 a3 : Int) (a4 : Bool) (a5 a6 a7 a8 a9 a10 a11 a12 a13 : Int) (b0 b1 b2 b3 : Int) (b4 : Bool) (b5 b6 b7 b8 b9 b10 b11 b12 b13 : Int) : Ev (fun _ => impl_DueBefore.f a0 a1 a2 a3 a4 a5 a6 a7 a8 a9 a10 a11 a12 a13 b0 b1 b2 b3 b4 b5 b6 b7 b8 b9 b10 b11 b12 b13) (decide (dueLt ⟨a0, a1, a2, a3, a4, a5, a6, a7, a8, a9, a10, a11, a12, a13⟩ ⟨b0, b1, b2, b3, b4, b5, b6, b7, b8, b9, b10, b11, b12, b13⟩)) := evEq _ (fun _ => rfl) ((dueBefore_eq a0 a1 a2 a3 a4 a5 a6 a7 a8 a9 a10 a11 a12 a13 b0 b1 b2 b3 b4 b5 b6 b7 b8 b9 b10 b11 b12 b13).trans (dueB a0 a1 a2 a3 a4 a5 a6 a7 a8 a9 a10 a11 a12 a13 b0 b1 b2 b3 b4 b5 b6 b7 b8 b9 b10 b11 b12 b13))
def fairLt (a b : Tk) : Prop := (Tk.ok a ∧ a.f1 = 3) ∧ (Tk.ok b ∧ b.f1 = 3) ∧ (a.f13 < b.f13 ∨ a.f13 = b.f13 ∧ a.f0 < b.f0)
instance (a b : Tk) : Decidable (fairLt a b) := by unfold fairLt; infer_instance
theorem sisFair_eq (a0 a1 a2 a3 : Int) (a4 : Bool) (a5 a6 a7 a8 a9 a10 a11 a12 a13 : Int) : spec_l6Fair.f a0 a1 a2 a3 a4 a5 a6 a7 a8 a9 a10 a11 a12 a13 = some (decide (TaskP a0 a1 a2 a3 a5 a6 a7 a8 a9 a10 a11 a12 a13 ∧ a1 = 3)) := by
  unfold spec_l6Fair.f spec_TaskOk.f
  simp only [Option.bind_some, decide_eq_true_eq]
  by_cases h : TaskP a0 a1 a2 a3 a5 a6 a7 a8 a9 a10 a11 a12 a13
  · simp [h, dBeq]
  · simp [h]
theorem fairB (a0 a1 a2 a3 : Int) (a4 : Bool) (a5 a6 a7 a8 a9 a10 a11 a12 a13 : Int) (b0 b1 b2 b3 : Int) (b4 : Bool) (b5 b6 b7 b8 b9 b10 b11 b12 b13 : Int) : spec_FairBefore.f a0 a1 a2 a3 a4 a5 a6 a7 a8 a9 a10 a11 a12 a13 b0 b1 b2 b3 b4 b5 b6 b7 b8 b9 b10 b11 b12 b13 = some (decide (fairLt ⟨a0, a1, a2, a3, a4, a5, a6, a7, a8, a9, a10, a11, a12, a13⟩ ⟨b0, b1, b2, b3, b4, b5, b6, b7, b8, b9, b10, b11, b12, b13⟩)) := by
  unfold spec_FairBefore.f fairLt Tk.ok
  simp only [sisFair_eq, Option.bind_some, decide_eq_true_eq, dFalse, dTrue, dIte]
  refine congrArg some (decide_eq_decide.2 ?_)
  generalize (TaskP a0 a1 a2 a3 a5 a6 a7 a8 a9 a10 a11 a12 a13 ∧ a1 = 3) = P
  generalize (TaskP b0 b1 b2 b3 b5 b6 b7 b8 b9 b10 b11 b12 b13 ∧ b1 = 3) = Q
  by_cases h : P <;> by_cases g : Q <;> simp only [h, g, true_and, false_and, and_false, and_true, not_true_eq_false, not_false_eq_true, or_false]
  omega
theorem isFair_eq (a0 a1 a2 a3 : Int) (a4 : Bool) (a5 a6 a7 a8 a9 a10 a11 a12 a13 : Int) : impl_isFair.f a0 a1 a2 a3 a4 a5 a6 a7 a8 a9 a10 a11 a12 a13 = some (decide (TaskP a0 a1 a2 a3 a5 a6 a7 a8 a9 a10 a11 a12 a13 ∧ a1 = 3)) := by
  unfold impl_isFair.f impl_TaskOk.f
  by_cases h : a1 = 3
  · rw [if_pos h]
    simp [h]
  · rw [if_neg h]
    simp [h]
theorem fairBefore_eq (a0 a1 a2 a3 : Int) (a4 : Bool) (a5 a6 a7 a8 a9 a10 a11 a12 a13 : Int) (b0 b1 b2 b3 : Int) (b4 : Bool) (b5 b6 b7 b8 b9 b10 b11 b12 b13 : Int) : impl_FairBefore.f a0 a1 a2 a3 a4 a5 a6 a7 a8 a9 a10 a11 a12 a13 b0 b1 b2 b3 b4 b5 b6 b7 b8 b9 b10 b11 b12 b13 = spec_FairBefore.f a0 a1 a2 a3 a4 a5 a6 a7 a8 a9 a10 a11 a12 a13 b0 b1 b2 b3 b4 b5 b6 b7 b8 b9 b10 b11 b12 b13 := by
  unfold impl_FairBefore.f spec_FairBefore.f
  simp only [isFair_eq, sisFair_eq]
theorem iFair_ev (a0 a1 a2 a3 : Int) (a4 : Bool) (a5 a6 a7 a8 a9 a10 a11 a12 a13 : Int) (b0 b1 b2 b3 : Int) (b4 : Bool) (b5 b6 b7 b8 b9 b10 b11 b12 b13 : Int) : Ev (fun _ => impl_FairBefore.f a0 a1 a2 a3 a4 a5 a6 a7 a8 a9 a10 a11 a12 a13 b0 b1 b2 b3 b4 b5 b6 b7 b8 b9 b10 b11 b12 b13) (decide (fairLt ⟨a0, a1, a2, a3, a4, a5, a6, a7, a8, a9, a10, a11, a12, a13⟩ ⟨b0, b1, b2, b3, b4, b5, b6, b7, b8, b9, b10, b11, b12, b13⟩)) := evEq _ (fun _ => rfl) ((fairBefore_eq a0 a1 a2 a3 a4 a5 a6 a7 a8 a9 a10 a11 a12 a13 b0 b1 b2 b3 b4 b5 b6 b7 b8 b9 b10 b11 b12 b13).trans (fairB a0 a1 a2 a3 a4 a5 a6 a7 a8 a9 a10 a11 a12 a13 b0 b1 b2 b3 b4 b5 b6 b7 b8 b9 b10 b11 b12 b13))
def fixLt (a b : Tk) : Prop := (Tk.ok a ∧ a.f1 = 2) ∧ (Tk.ok b ∧ b.f1 = 2) ∧ (a.f9 > b.f9 ∨ a.f9 = b.f9 ∧ (a.f11 < b.f11 ∨ a.f11 = b.f11 ∧ a.f0 < b.f0))
instance (a b : Tk) : Decidable (fixLt a b) := by unfold fixLt; infer_instance
theorem isFixed_eq (a0 a1 a2 a3 : Int) (a4 : Bool) (a5 a6 a7 a8 a9 a10 a11 a12 a13 : Int) : impl_isFixed.f a0 a1 a2 a3 a4 a5 a6 a7 a8 a9 a10 a11 a12 a13 = some (decide (TaskP a0 a1 a2 a3 a5 a6 a7 a8 a9 a10 a11 a12 a13 ∧ a1 = 2)) := by
  unfold impl_isFixed.f impl_TaskOk.f
  by_cases h : a1 = 2
  · rw [if_pos h]
    simp [h]
  · rw [if_neg h]
    simp [h]
theorem sisFixed_eq (a0 a1 a2 a3 : Int) (a4 : Bool) (a5 a6 a7 a8 a9 a10 a11 a12 a13 : Int) : spec_l5Fixed.f a0 a1 a2 a3 a4 a5 a6 a7 a8 a9 a10 a11 a12 a13 = some (decide (TaskP a0 a1 a2 a3 a5 a6 a7 a8 a9 a10 a11 a12 a13 ∧ a1 = 2)) := by
  unfold spec_l5Fixed.f spec_TaskOk.f
  simp only [Option.bind_some, decide_eq_true_eq]
  by_cases h : TaskP a0 a1 a2 a3 a5 a6 a7 a8 a9 a10 a11 a12 a13
  · simp [h, dBeq]
  · simp [h]
theorem fixedBefore_eq (k : Nat) (a0 a1 a2 a3 : Int) (a4 : Bool) (a5 a6 a7 a8 a9 a10 a11 a12 a13 : Int) (b0 b1 b2 b3 : Int) (b4 : Bool) (b5 b6 b7 b8 b9 b10 b11 b12 b13 : Int) : impl_FixedBefore.f k a0 a1 a2 a3 a4 a5 a6 a7 a8 a9 a10 a11 a12 a13 b0 b1 b2 b3 b4 b5 b6 b7 b8 b9 b10 b11 b12 b13 = spec_FixedBefore.f k a0 a1 a2 a3 a4 a5 a6 a7 a8 a9 a10 a11 a12 a13 b0 b1 b2 b3 b4 b5 b6 b7 b8 b9 b10 b11 b12 b13 := by
  unfold impl_FixedBefore.f spec_FixedBefore.f
  simp only [isFixed_eq, sisFixed_eq]
  cases k <;> simp only [impl_FixedBefore.j0, spec_FixedBefore.j0]
theorem fixB (k : Nat) (a0 a1 a2 a3 : Int) (a4 : Bool) (a5 a6 a7 a8 a9 a10 a11 a12 a13 : Int) (b0 b1 b2 b3 : Int) (b4 : Bool) (b5 b6 b7 b8 b9 b10 b11 b12 b13 : Int) : spec_FixedBefore.f (k + 1) a0 a1 a2 a3 a4 a5 a6 a7 a8 a9 a10 a11 a12 a13 b0 b1 b2 b3 b4 b5 b6 b7 b8 b9 b10 b11 b12 b13 = some (decide (fixLt ⟨a0, a1, a2, a3, a4, a5, a6, a7, a8, a9, a10, a11, a12, a13⟩ ⟨b0, b1, b2, b3, b4, b5, b6, b7, b8, b9, b10, b11, b12, b13⟩)) := by
  unfold spec_FixedBefore.f
  simp only [sisFixed_eq, spec_FixedBefore.j0, Option.bind_some, decide_eq_true_eq, dNot]
  by_cases h : TaskP a0 a1 a2 a3 a5 a6 a7 a8 a9 a10 a11 a12 a13 ∧ a1 = 2 <;> by_cases g : TaskP b0 b1 b2 b3 b5 b6 b7 b8 b9 b10 b11 b12 b13 ∧ b1 = 2
  · rw [if_pos h, if_neg (fun f => f g)]
    simp only [dFalse, dTrue, dIte]
    refine congrArg some (decide_eq_decide.2 ⟨fun z => ⟨h, g, show a9 > b9 ∨ a9 = b9 ∧ (a11 < b11 ∨ a11 = b11 ∧ a0 < b0) from ?_⟩, fun z => ?_⟩)
    · omega
    · have z : a9 > b9 ∨ a9 = b9 ∧ (a11 < b11 ∨ a11 = b11 ∧ a0 < b0) := z.2.2
      omega
  · rw [if_pos h, if_pos g]
    exact congrArg some (decide_eq_false fun z => g z.2.1).symm
  · rw [if_neg h, if_pos trivial]
    exact congrArg some (decide_eq_false fun z => h z.1).symm
  · rw [if_neg h, if_pos trivial]
    exact congrArg some (decide_eq_false fun z => h z.1).symm
theorem sFix_ev (a0 a1 a2 a3 : Int) (a4 : Bool) (a5 a6 a7 a8 a9 a10 a11 a12 a13 : Int) (b0 b1 b2 b3 : Int) (b4 : Bool) (b5 b6 b7 b8 b9 b10 b11 b12 b13 : Int) : Ev (fun k => spec_FixedBefore.f k a0 a1 a2 a3 a4 a5 a6 a7 a8 a9 a10 a11 a12 a13 b0 b1 b2 b3 b4 b5 b6 b7 b8 b9 b10 b11 b12 b13) (decide (fixLt ⟨a0, a1, a2, a3, a4, a5, a6, a7, a8, a9, a10, a11, a12, a13⟩ ⟨b0, b1, b2, b3, b4, b5, b6, b7, b8, b9, b10, b11, b12, b13⟩)) := Ev.of (fun k => spec_FixedBefore.mono a0 a1 a2 a3 a4 a5 a6 a7 a8 a9 a10 a11 a12 a13 b0 b1 b2 b3 b4 b5 b6 b7 b8 b9 b10 b11 b12 b13 k) (fixB 0 a0 a1 a2 a3 a4 a5 a6 a7 a8 a9 a10 a11 a12 a13 b0 b1 b2 b3 b4 b5 b6 b7 b8 b9 b10 b11 b12 b13)
theorem iFix_ev (a0 a1 a2 a3 : Int) (a4 : Bool) (a5 a6 a7 a8 a9 a10 a11 a12 a13 : Int) (b0 b1 b2 b3 : Int) (b4 : Bool) (b5 b6 b7 b8 b9 b10 b11 b12 b13 : Int) : Ev (fun k => impl_FixedBefore.f k a0 a1 a2 a3 a4 a5 a6 a7 a8 a9 a10 a11 a12 a13 b0 b1 b2 b3 b4 b5 b6 b7 b8 b9 b10 b11 b12 b13) (decide (fixLt ⟨a0, a1, a2, a3, a4, a5, a6, a7, a8, a9, a10, a11, a12, a13⟩ ⟨b0, b1, b2, b3, b4, b5, b6, b7, b8, b9, b10, b11, b12, b13⟩)) := Ev.congr (fun k => fixedBefore_eq k a0 a1 a2 a3 a4 a5 a6 a7 a8 a9 a10 a11 a12 a13 b0 b1 b2 b3 b4 b5 b6 b7 b8 b9 b10 b11 b12 b13) (sFix_ev a0 a1 a2 a3 a4 a5 a6 a7 a8 a9 a10 a11 a12 a13 b0 b1 b2 b3 b4 b5 b6 b7 b8 b9 b10 b11 b12 b13)
theorem dF {p : Prop} [Decidable p] (h : ¬ p) : ¬ (decide p = true) := fun g => h (of_decide_eq_true g)
theorem dueLt_asymm {a b : Tk} (h : dueLt a b) : ¬ dueLt b a := fun g => by
  have h := h.2.2
  have g := g.2.2
  omega
theorem dueLt_le {a b : Tk} (h : dueLt a b) : ¬ (a.f8 > b.f8) := by
  have h := h.2.2
  omega
theorem fairLt_asymm {a b : Tk} (h : fairLt a b) : ¬ fairLt b a := fun g => by
  have h := h.2.2
  have g := g.2.2
  omega
theorem fairLt_le {a b : Tk} (h : fairLt a b) : ¬ (a.f13 > b.f13) := by
  have h := h.2.2
  omega
theorem fixLt_asymm {a b : Tk} (h : fixLt a b) : ¬ fixLt b a := fun g => by
  have h := h.2.2
  have g := g.2.2
  omega
theorem fixLt_le {a b : Tk} (h : fixLt a b) : ¬ (a.f9 < b.f9) := by
  have h := h.2.2
  omega
theorem inClass_j2 (x y z : Bool) (a0 a1 a2 a3 : Int) (a4 : Bool) (a5 a6 a7 a8 a9 a10 a11 a12 a13 : Int) (c0 c1 c2 c3 : Int) (c4 : Bool) (c5 c6 c7 c8 c9 c10 c11 c12 c13 : Int) (p0 p1 p2 p3 : Int) (p4 : Bool) (p5 p6 p7 p8 p9 p10 p11 p12 p13 : Int) (hx : x = true → TaskP a0 a1 a2 a3 a5 a6 a7 a8 a9 a10 a11 a12 a13 ∧ a1 = 1) (hy : y = true → TaskP c0 c1 c2 c3 c5 c6 c7 c8 c9 c10 c11 c12 c13 ∧ c1 = 2) (hz : z = true → TaskP p0 p1 p2 p3 p5 p6 p7 p8 p9 p10 p11 p12 p13 ∧ p1 = 3) : Ev (fun k => laws_FnInClass.j2 k x y z false a0 a1 a2 a3 a4 a5 a6 a7 a8 a9 a10 a11 a12 a13 c0 c1 c2 c3 c4 c5 c6 c7 c8 c9 c10 c11 c12 c13 p0 p1 p2 p3 p4 p5 p6 p7 p8 p9 p10 p11 p12 p13) true := by
  refine Ev.step (fun k => by simp only [laws_FnInClass.j2, impl_TaskOk.f, Option.bind_some, decide_eq_true_eq]; rfl) ?_
  refine evNeg (by decide) (evEq _ (fun _ => rfl) ?_)
  cases x
  · rw [if_neg (by decide)]
    cases y
    · rw [if_neg (by decide)]
      cases z
      · rw [if_neg (by decide)]
      · rw [if_pos rfl, if_pos (hz rfl).1, (hz rfl).2]; rfl
    · rw [if_pos rfl, if_pos (hy rfl).1, if_pos (hy rfl).2]
      cases z
      · rw [if_neg (by decide)]
      · rw [if_pos rfl, if_pos (hz rfl).1, (hz rfl).2]; rfl
  · rw [if_pos rfl, if_pos (hx rfl).1, if_pos (hx rfl).2]
    cases y
    · rw [if_neg (by decide)]
      cases z
      · rw [if_neg (by decide)]
      · rw [if_pos rfl, if_pos (hz rfl).1, (hz rfl).2]; rfl
    · rw [if_pos rfl, if_pos (hy rfl).1, if_pos (hy rfl).2]
      cases z
      · rw [if_neg (by decide)]
      · rw [if_pos rfl, if_pos (hz rfl).1, (hz rfl).2]; rfl
theorem inClass_j1 (a0 a1 a2 a3 : Int) (a4 : Bool) (a5 a6 a7 a8 a9 a10 a11 a12 a13 : Int) (b0 b1 b2 b3 : Int) (b4 : Bool) (b5 b6 b7 b8 b9 b10 b11 b12 b13 : Int) (c0 c1 c2 c3 : Int) (c4 : Bool) (c5 c6 c7 c8 c9 c10 c11 c12 c13 : Int) (d0 d1 d2 d3 : Int) (d4 : Bool) (d5 d6 d7 d8 d9 d10 d11 d12 d13 : Int) (p0 p1 p2 p3 : Int) (p4 : Bool) (p5 p6 p7 p8 p9 p10 p11 p12 p13 : Int) (q0 q1 q2 q3 : Int) (q4 : Bool) (q5 q6 q7 q8 q9 q10 q11 q12 q13 : Int) : Ev (fun k => laws_FnInClass.j1 k (decide (dueLt ⟨a0, a1, a2, a3, a4, a5, a6, a7, a8, a9, a10, a11, a12, a13⟩ ⟨b0, b1, b2, b3, b4, b5, b6, b7, b8, b9, b10, b11, b12, b13⟩)) (decide (fixLt ⟨c0, c1, c2, c3, c4, c5, c6, c7, c8, c9, c10, c11, c12, c13⟩ ⟨d0, d1, d2, d3, d4, d5, d6, d7, d8, d9, d10, d11, d12, d13⟩)) (decide (fairLt ⟨p0, p1, p2, p3, p4, p5, p6, p7, p8, p9, p10, p11, p12, p13⟩ ⟨q0, q1, q2, q3, q4, q5, q6, q7, q8, q9, q10, q11, q12, q13⟩)) false a0 a1 a2 a3 a4 a5 a6 a7 a8 a9 a10 a11 a12 a13 b0 b1 b2 b3 b4 b5 b6 b7 b8 b9 b10 b11 b12 b13 c0 c1 c2 c3 c4 c5 c6 c7 c8 c9 c10 c11 c12 c13 d0 d1 d2 d3 d4 d5 d6 d7 d8 d9 d10 d11 d12 d13 p0 p1 p2 p3 p4 p5 p6 p7 p8 p9 p10 p11 p12 p13 q0 q1 q2 q3 q4 q5 q6 q7 q8 q9 q10 q11 q12 q13) true := by
  have h2 := inClass_j2 (decide (dueLt ⟨a0, a1, a2, a3, a4, a5, a6, a7, a8, a9, a10, a11, a12, a13⟩ ⟨b0, b1, b2, b3, b4, b5, b6, b7, b8, b9, b10, b11, b12, b13⟩)) (decide (fixLt ⟨c0, c1, c2, c3, c4, c5, c6, c7, c8, c9, c10, c11, c12, c13⟩ ⟨d0, d1, d2, d3, d4, d5, d6, d7, d8, d9, d10, d11, d12, d13⟩)) (decide (fairLt ⟨p0, p1, p2, p3, p4, p5, p6, p7, p8, p9, p10, p11, p12, p13⟩ ⟨q0, q1, q2, q3, q4, q5, q6, q7, q8, q9, q10, q11, q12, q13⟩)) a0 a1 a2 a3 a4 a5 a6 a7 a8 a9 a10 a11 a12 a13 c0 c1 c2 c3 c4 c5 c6 c7 c8 c9 c10 c11 c12 c13 p0 p1 p2 p3 p4 p5 p6 p7 p8 p9 p10 p11 p12 p13 (fun h => (of_decide_eq_true h).1) (fun h => (of_decide_eq_true h).1) (fun h => (of_decide_eq_true h).1)
  refine Ev.step (fun k => by simp only [laws_FnInClass.j1]; rfl) ?_
  refine evNeg (by decide) ?_
  by_cases hx : dueLt ⟨a0, a1, a2, a3, a4, a5, a6, a7, a8, a9, a10, a11, a12, a13⟩ ⟨b0, b1, b2, b3, b4, b5, b6, b7, b8, b9, b10, b11, b12, b13⟩
  all_goals first
    | refine evPos (decide_eq_true hx) (evNeg (dueLt_le hx) (Ev.bind (iDue_ev b0 b1 b2 b3 b4 b5 b6 b7 b8 b9 b10 b11 b12 b13 a0 a1 a2 a3 a4 a5 a6 a7 a8 a9 a10 a11 a12 a13) (evNeg (dF (dueLt_asymm hx)) ?_)))
    | refine evNeg (dF hx) ?_
  all_goals by_cases hy : fixLt ⟨c0, c1, c2, c3, c4, c5, c6, c7, c8, c9, c10, c11, c12, c13⟩ ⟨d0, d1, d2, d3, d4, d5, d6, d7, d8, d9, d10, d11, d12, d13⟩
  all_goals first
    | refine evPos (decide_eq_true hy) (evNeg (fixLt_le hy) (Ev.bind (iFix_ev d0 d1 d2 d3 d4 d5 d6 d7 d8 d9 d10 d11 d12 d13 c0 c1 c2 c3 c4 c5 c6 c7 c8 c9 c10 c11 c12 c13) (evNeg (dF (fixLt_asymm hy)) ?_)))
    | refine evNeg (dF hy) ?_
  all_goals by_cases hz : fairLt ⟨p0, p1, p2, p3, p4, p5, p6, p7, p8, p9, p10, p11, p12, p13⟩ ⟨q0, q1, q2, q3, q4, q5, q6, q7, q8, q9, q10, q11, q12, q13⟩
  all_goals first
    | (refine evPos (decide_eq_true hz) (evNeg (fairLt_le hz) (Ev.bind (iFair_ev q0 q1 q2 q3 q4 q5 q6 q7 q8 q9 q10 q11 q12 q13 p0 p1 p2 p3 p4 p5 p6 p7 p8 p9 p10 p11 p12 p13) ?_)); rw [decide_eq_false (fairLt_asymm hz)]; exact h2)
    | (refine evNeg (dF hz) ?_; exact h2)
theorem sDue_ev (a0 a1 a2 a3 : Int) (a4 : Bool) (a5 a6 a7 a8 a9 a10 a11 a12 a13 : Int) (b0 b1 b2 b3 : Int) (b4 : Bool) (b5 b6 b7 b8 b9 b10 b11 b12 b13 : Int) : Ev (fun _ => spec_DueBefore.f a0 a1 a2 a3 a4 a5 a6 a7 a8 a9 a10 a11 a12 a13 b0 b1 b2 b3 b4 b5 b6 b7 b8 b9 b10 b11 b12 b13) (decide (dueLt ⟨a0, a1, a2, a3, a4, a5, a6, a7, a8, a9, a10, a11, a12, a13⟩ ⟨b0, b1, b2, b3, b4, b5, b6, b7, b8, b9, b10, b11, b12, b13⟩)) := evEq _ (fun _ => rfl) (dueB a0 a1 a2 a3 a4 a5 a6 a7 a8 a9 a10 a11 a12 a13 b0 b1 b2 b3 b4 b5 b6 b7 b8 b9 b10 b11 b12 b13)
theorem sFair_ev (a0 a1 a2 a3 : Int) (a4 : Bool) (a5 a6 a7 a8 a9 a10 a11 a12 a13 : Int) (b0 b1 b2 b3 : Int) (b4 : Bool) (b5 b6 b7 b8 b9 b10 b11 b12 b13 : Int) : Ev (fun _ => spec_FairBefore.f a0 a1 a2 a3 a4 a5 a6 a7 a8 a9 a10 a11 a12 a13 b0 b1 b2 b3 b4 b5 b6 b7 b8 b9 b10 b11 b12 b13) (decide (fairLt ⟨a0, a1, a2, a3, a4, a5, a6, a7, a8, a9, a10, a11, a12, a13⟩ ⟨b0, b1, b2, b3, b4, b5, b6, b7, b8, b9, b10, b11, b12, b13⟩)) := evEq _ (fun _ => rfl) (fairB a0 a1 a2 a3 a4 a5 a6 a7 a8 a9 a10 a11 a12 a13 b0 b1 b2 b3 b4 b5 b6 b7 b8 b9 b10 b11 b12 b13)
theorem FnInClass : laws_FnInClass.Pure := by
  intro l hl _ _
  refine Ev.rounds (r := true) ?_
  unfold laws_FnInClass.f laws_big.f
  simp only [Option.bind_some, decide_eq_true_eq]
  by_cases hb : (l.length : Int) > 1048576
  · exact evPos hb (Ev.now _)
  · refine evNeg hb ?_
    obtain ⟨⟨a0, a1, a2, a3, a4, a5, a6, a7, a8, a9, a10, a11, a12, a13, b0, b1, b2, b3, b4, b5, b6, b7, b8, b9, b10, b11, b12, b13⟩, e1, _⟩ := drawDueBefore_en l hl
    refine Ev.bind e1 ?_
    obtain ⟨⟨c0, c1, c2, c3, c4, c5, c6, c7, c8, c9, c10, c11, c12, c13, d0, d1, d2, d3, d4, d5, d6, d7, d8, d9, d10, d11, d12, d13⟩, e2, _⟩ := drawFixedBefore_en l hl
    refine Ev.bind e2 ?_
    obtain ⟨⟨p0, p1, p2, p3, p4, p5, p6, p7, p8, p9, p10, p11, p12, p13, q0, q1, q2, q3, q4, q5, q6, q7, q8, q9, q10, q11, q12, q13⟩, e3, _⟩ := drawFairBefore_en l hl
    refine Ev.bind e3 ?_
    simp only []
    refine Ev.bind (iDue_ev a0 a1 a2 a3 a4 a5 a6 a7 a8 a9 a10 a11 a12 a13 b0 b1 b2 b3 b4 b5 b6 b7 b8 b9 b10 b11 b12 b13) (Ev.bind (iFix_ev c0 c1 c2 c3 c4 c5 c6 c7 c8 c9 c10 c11 c12 c13 d0 d1 d2 d3 d4 d5 d6 d7 d8 d9 d10 d11 d12 d13) (Ev.bind (iFair_ev p0 p1 p2 p3 p4 p5 p6 p7 p8 p9 p10 p11 p12 p13 q0 q1 q2 q3 q4 q5 q6 q7 q8 q9 q10 q11 q12 q13) ?_))
    refine Ev.step (fun k => by simp only [laws_FnInClass.j0]; rfl) ?_
    refine Ev.bind (sDue_ev a0 a1 a2 a3 a4 a5 a6 a7 a8 a9 a10 a11 a12 a13 b0 b1 b2 b3 b4 b5 b6 b7 b8 b9 b10 b11 b12 b13) (evNeg (by simp) (Ev.bind (sFix_ev c0 c1 c2 c3 c4 c5 c6 c7 c8 c9 c10 c11 c12 c13 d0 d1 d2 d3 d4 d5 d6 d7 d8 d9 d10 d11 d12 d13) (evNeg (by simp) (Ev.bind (sFair_ev p0 p1 p2 p3 p4 p5 p6 p7 p8 p9 p10 p11 p12 p13 q0 q1 q2 q3 q4 q5 q6 q7 q8 q9 q10 q11 q12 q13) ?_))))
    rw [bne_self_eq_false]
    exact inClass_j1 a0 a1 a2 a3 a4 a5 a6 a7 a8 a9 a10 a11 a12 a13 b0 b1 b2 b3 b4 b5 b6 b7 b8 b9 b10 b11 b12 b13 c0 c1 c2 c3 c4 c5 c6 c7 c8 c9 c10 c11 c12 c13 d0 d1 d2 d3 d4 d5 d6 d7 d8 d9 d10 d11 d12 d13 p0 p1 p2 p3 p4 p5 p6 p7 p8 p9 p10 p11 p12 p13 q0 q1 q2 q3 q4 q5 q6 q7 q8 q9 q10 q11 q12 q13

end Go.Proofs.Ytphkgmdbdnjmbaa.Pure
