/- The pure statement of FnWoken, over numbers and lists: a drawn task with a deadline that is woken has no more left than its part of the time up to its deadline; woken again at once it is as it is. Conditions: those of the statement (the drawn bytes lie in memory). -/
import Derived.Test.YtphkgmdbdnjmbaaPrintLawsFnWoken
set_option linter.unusedVariables false
set_option linter.unusedSimpArgs false
namespace Go.Proofs.Ytphkgmdbdnjmbaa.Pure
open Go.RowKit Go.Proofs.Ytphkgmdbdnjmbaa.Print Go.Proofs.YtphkgmdbdnjmbaaW.PrintWords Go.Proofs.YtphkgmdbdnjmbaaW.PrintLast Go.Proofs.YtphkgmdbdnjmbaaW.PrintMore Go.Proofs.Ytphkgmdbdnjmbaa.Base

/-! A draw answers, and with what. -/
def En {α : Type} (f : Nat → Option α) (Q : α → Prop) : Prop := ∃ r, Ev f r ∧ Q r
theorem En.bind {α β : Type} {f : Nat → Option α} {P : α → Prop} {g : α → Nat → Option β} {Q : β → Prop} (h : En f P) (hg : ∀ r, P r → En (fun k => g r k) Q) : En (fun k => (f k).bind (fun r => g r k)) Q := by
  obtain ⟨r, e, p⟩ := h
  obtain ⟨s, e2, q⟩ := hg r p
  exact ⟨s, Ev.bind e e2, q⟩
theorem En.now {α : Type} {r : α} {Q : α → Prop} (h : Q r) : En (fun _ => some r) Q := ⟨r, Ev.now r, h⟩
theorem En.ite {α : Type} {c : Prop} [Decidable c] {f g : Nat → Option α} {Q : α → Prop} (h : c → En f Q) (h' : ¬ c → En g Q) : En (fun k => if c then f k else g k) Q := by
  by_cases hc : c
  · obtain ⟨r, e, q⟩ := h hc
    exact ⟨r, evPos hc e, q⟩
  · obtain ⟨r, e, q⟩ := h' hc
    exact ⟨r, evNeg hc e, q⟩
theorem En.of {α : Type} {o : Option α} {P : α → Prop} (h : ∃ r, o = some r ∧ P r) : En (fun _ => o) P := by
  obtain ⟨r, e, p⟩ := h
  exact ⟨r, ⟨0, fun _ _ => e⟩, p⟩
theorem and255 (x : Int) : 0 ≤ Go.bits .and .i64 x 255 ∧ Go.bits .and .i64 x 255 ≤ 255 := by
  have e : Go.bits .and .i64 x 255 = IntKind.i64.wrap (((BitVec.ofInt 64 x) &&& (BitVec.ofInt 64 255)).toNat : Nat) := rfl
  have h : ((BitVec.ofInt 64 x) &&& (BitVec.ofInt 64 255)).toNat ≤ 255 := by rw [BitVec.toNat_and]; exact Nat.and_le_right
  rw [e, IntKind.wrap_i64]
  omega
theorem byte_some (l : List Int) (hl : l.length ≤ maxLen) (i h : Int) (h0 : 0 ≤ i) : ∃ b i' h', spec_l1Byte.f l i h = some (b, i', h') ∧ 0 ≤ b ∧ b ≤ 255 ∧ 0 ≤ i' := by
  unfold maxLen at hl
  unfold spec_l1Byte.f
  by_cases e : i < (l.length : Int)
  · rw [if_pos e, if_pos h0, wr (i + 1) (by omega) (by omega)]
    exact ⟨_, _, _, rfl, (and255 _).1, (and255 _).2, by omega⟩
  · rw [if_neg e]
    exact ⟨_, _, _, rfl, (and255 _).1, (and255 _).2, by omega⟩
theorem below_some (l : List Int) (hl : l.length ≤ maxLen) (i h n : Int) (h0 : 0 ≤ i) : ∃ r i' h', spec_l1Below.f l i h n = some (r, i', h') ∧ 0 ≤ i' ∧ 0 ≤ r ∧ (0 < n → r < n) ∧ (n ≤ 0 → r = 0) := by
  unfold spec_l1Below.f
  by_cases e : n ≤ 0
  · rw [if_pos e]
    exact ⟨_, _, _, rfl, h0, by omega, by omega, by omega⟩
  · rw [if_neg e]
    obtain ⟨b, i1, h1, e1, b0, b1, p1⟩ := byte_some l hl i h h0
    by_cases e2 : n ≤ 256
    · rw [if_pos e2, e1]
      simp only [Option.bind_some]
      rw [if_neg (by omega)]
      have := Int.tmod_nonneg n b0
      have := Int.tmod_lt_of_pos b (show 0 < n by omega)
      exact ⟨_, _, _, rfl, p1, by omega, by omega, by omega⟩
    · rw [if_neg e2, e1]
      simp only [Option.bind_some]
      obtain ⟨c, i2, h2, e3, c0, c1, p2⟩ := byte_some l hl i1 h1 p1
      rw [e3]
      simp only [Option.bind_some]
      obtain ⟨d, i3, h3, e4, d0, d1, p3⟩ := byte_some l hl i2 h2 p2
      rw [e4]
      simp only [Option.bind_some]
      obtain ⟨f, i4, h4, e5, f0, f1, p4⟩ := byte_some l hl i3 h3 p3
      rw [e5]
      simp only [Option.bind_some]
      rw [if_neg (by omega), wr (b * 16777216) (by omega) (by omega), wr (c * 65536) (by omega) (by omega), wr (d * 256) (by omega) (by omega), wr (b * 16777216 + c * 65536) (by omega) (by omega), wr (b * 16777216 + c * 65536 + d * 256) (by omega) (by omega), wr (b * 16777216 + c * 65536 + d * 256 + f) (by omega) (by omega)]
      have := Int.tmod_nonneg n (show 0 ≤ b * 16777216 + c * 65536 + d * 256 + f by omega)
      have := Int.tmod_lt_of_pos (b * 16777216 + c * 65536 + d * 256 + f) (show 0 < n by omega)
      exact ⟨_, _, _, rfl, p4, by omega, by omega, by omega⟩
theorem below_en (l : List Int) (hl : l.length ≤ maxLen) (i h n : Int) (h0 : 0 ≤ i) : En (fun _ => spec_l1Below.f l i h n) (fun r => 0 ≤ r.2.1) := by
  obtain ⟨r, i', h', e, p, _⟩ := below_some l hl i h n h0
  exact En.of ⟨_, e, p⟩
theorem En.step {α : Type} {f g : Nat → Option α} {Q : α → Prop} (h : ∀ k, f (k + 1) = g k) (e : En g Q) : En f Q := by
  obtain ⟨r, e, q⟩ := e
  exact ⟨r, Ev.step h e, q⟩
theorem draw3j_en (l : List Int) (i h : Int) (h0 : 0 ≤ i) (a0 a1 a2 a3 : Int) (a4 : Bool) (a5 a6 a7 a8 a9 a10 a11 a12 a13 : Int) : En (fun k => spec_l3Draw.j0 k l i h a0 a1 a2 a3 a4 a5 a6 a7 a8 a9 a10 a11 a12 a13) (fun r => 0 ≤ r.2.2.2.2.2.2.2.2.2.2.2.2.2.2.1) := by
  refine En.step (fun k => by simp only [spec_l3Draw.j0]; rfl) ?_
  exact En.now h0
theorem once_some (l : List Int) (hl : l.length ≤ maxLen) (i h n : Int) (h0 : 0 ≤ i) : ∃ b i' h', spec_l1Once.f l i h n = some (b, i', h') ∧ 0 ≤ i' := by
  obtain ⟨r, i', h', e, p, _⟩ := below_some l hl i h n h0
  exact ⟨r == 0, i', h', by unfold spec_l1Once.f; rw [e]; rfl, p⟩
theorem once_en (l : List Int) (hl : l.length ≤ maxLen) (i h n : Int) (h0 : 0 ≤ i) : En (fun _ => spec_l1Once.f l i h n) (fun r => 0 ≤ r.2.1) := by
  obtain ⟨r, i', h', e, p⟩ := once_some l hl i h n h0
  exact En.of ⟨_, e, p⟩
theorem drawRight0_en (l : List Int) (hl : l.length ≤ maxLen) (i h : Int) (h0 : 0 ≤ i) (a0 a1 a2 a3 : Int) (a4 : Bool) (a5 a6 a7 a8 a9 a10 a11 a12 a13 : Int) : En (fun k => spec_l3DrawRight.j0 k l i h a0 a1 a2 a3 a4 a5 a6 a7 a8 a9 a10 a11 a12 a13) (fun r => 0 ≤ r.2.2.2.2.2.2.2.2.2.2.2.2.2.2.1) := by
  refine En.step (fun k => by simp only [spec_l3DrawRight.j0]; rfl) ?_
  refine En.bind (once_en l hl _ _ _ h0) (fun r hr => ?_)
  refine En.ite (fun _ => ?_) (fun _ => ?_)
  all_goals
    refine En.bind (once_en l hl _ _ _ hr) (fun s hs => ?_)
    exact En.now hs
theorem sin_eq (a b c : Int) : spec_l1In.f a b c = some (decide (b ≤ a ∧ a ≤ c)) := by
  unfold spec_l1In.f
  by_cases h : a ≥ b
  · rw [if_pos h]; simp [show b ≤ a from h]
  · rw [if_neg h]; simp; omega
theorem snew_some (a0 a1 a2 a3 : Int) (a4 : Bool) (a5 a6 a7 a8 a9 a10 a11 a12 a13 : Int) : ∃ r, spec_l3New.f a0 a1 a2 a3 a4 a5 a6 a7 a8 a9 a10 a11 a12 a13 = some r := by
  unfold spec_l3New.f spec_TaskOk.f
  simp only [Option.bind_some]
  split <;> exact ⟨_, rfl⟩
theorem sshare_eq (q p : Int) : spec_ShareOk.f q p = some (decide (ShareP q p)) := by
  unfold spec_ShareOk.f ShareP
  simp only [sin_eq, Option.bind_some, decide_eq_true_eq]
  by_cases h : 1 ≤ p ∧ p ≤ 40
  · simp only [h, and_self, if_true, true_and]
  · simp only [h, if_false, false_and, decide_false]
theorem snewDue_some (no cpu q p now : Int) : ∃ r, spec_NewDue.f no cpu q p now = some r := by
  unfold spec_NewDue.f
  obtain ⟨r, hr⟩ := snew_some no 1 cpu 1 false q p q (wrap64 (now + p)) 0 0 0 0 0
  simp only [sin_eq, sshare_eq, hr, Option.bind_some]
  repeat' split
  all_goals exact ⟨_, rfl⟩
theorem snewFair_some (no cpu nice v : Int) : ∃ r, spec_NewFair.f no cpu nice v = some r := by
  unfold spec_NewFair.f
  obtain ⟨r, hr⟩ := snew_some no 3 cpu 1 false 0 0 0 0 0 0 0 nice v
  simp only [hr, Option.bind_some]
  exact ⟨_, rfl⟩
theorem snewFixed_some (no cpu prio round seq : Int) : ∃ r, spec_NewFixed.f no cpu prio round seq = some r := by
  unfold spec_NewFixed.f
  obtain ⟨r, hr⟩ := snew_some no 2 cpu 1 false 0 0 round 0 prio round seq 0 0
  simp only [hr, Option.bind_some]
  exact ⟨_, rfl⟩
theorem some_en {α : Type} {o : Option α} (h : ∃ r, o = some r) : En (fun _ => o) (fun _ => True) := by
  obtain ⟨r, e⟩ := h
  exact En.of ⟨r, e, trivial⟩
theorem drawRight_en (l : List Int) (hl : l.length ≤ maxLen) (i h : Int) (h0 : 0 ≤ i) : En (fun k => spec_l3DrawRight.f k l i h) (fun r => 0 ≤ r.2.2.2.2.2.2.2.2.2.2.2.2.2.2.1) := by
  unfold spec_l3DrawRight.f
  refine En.bind (below_en l hl _ _ _ h0) (fun r1 h1 => ?_)
  refine En.bind (below_en l hl _ _ _ h1) (fun r2 h2 => ?_)
  refine En.bind (below_en l hl _ _ _ h2) (fun r3 h3 => ?_)
  refine En.ite (fun _ => ?_) (fun _ => En.ite (fun _ => ?_) (fun _ => ?_))
  · refine En.bind (below_en l hl _ _ _ h3) (fun r4 h4 => ?_)
    refine En.bind (below_en l hl _ _ _ h4) (fun r5 h5 => ?_)
    refine En.bind (below_en l hl _ _ _ h5) (fun r6 h6 => ?_)
    refine En.bind (some_en (snewDue_some _ _ _ _ _)) (fun r7 _ => ?_)
    refine En.bind (below_en l hl _ _ _ h6) (fun r8 h8 => ?_)
    exact drawRight0_en l hl _ _ h8 _ _ _ _ _ _ _ _ _ _ _ _ _ _
  · refine En.bind (below_en l hl _ _ _ h3) (fun r4 h4 => ?_)
    refine En.bind (below_en l hl _ _ _ h4) (fun r5 h5 => ?_)
    refine En.bind (below_en l hl _ _ _ h5) (fun r6 h6 => ?_)
    refine En.bind (some_en (snewFixed_some _ _ _ _ _)) (fun r7 _ => ?_)
    refine En.ite (fun _ => ?_) (fun _ => ?_)
    · refine En.bind (below_en l hl _ _ _ h6) (fun r8 h8 => ?_)
      exact drawRight0_en l hl _ _ h8 _ _ _ _ _ _ _ _ _ _ _ _ _ _
    · exact drawRight0_en l hl _ _ h6 _ _ _ _ _ _ _ _ _ _ _ _ _ _
  · refine En.bind (below_en l hl _ _ _ h3) (fun r4 h4 => ?_)
    refine En.bind (below_en l hl _ _ _ h4) (fun r5 h5 => ?_)
    refine En.bind (some_en (snewFair_some _ _ _ _)) (fun r7 _ => ?_)
    exact drawRight0_en l hl _ _ h5 _ _ _ _ _ _ _ _ _ _ _ _ _ _
theorem pick_some (l : List Int) (hl : l.length ≤ maxLen) (i h : Int) (xs : List Int) (h0 : 0 ≤ i) (hx : 0 < xs.length) : ∃ r i' h', spec_l1PickInt.f l i h xs = some (r, i', h') ∧ 0 ≤ i' ∧ r ∈ xs := by
  unfold spec_l1PickInt.f
  obtain ⟨r, i1, h1, e, p1, r0, r1, _⟩ := below_some l hl i h (xs.length : Int) h0
  have r1 := r1 (by omega)
  rw [e]
  simp only [Option.bind_some]
  rw [if_pos r0, if_pos r1]
  refine ⟨_, _, _, rfl, p1, ?_⟩
  unfold rd
  rw [List.getD_eq_getElem?_getD, List.getElem?_eq_getElem (by omega), Option.getD_some]
  exact List.getElem_mem _
theorem pick_en (l : List Int) (hl : l.length ≤ maxLen) (i h : Int) (x : Int) (xs : List Int) (h0 : 0 ≤ i) : En (fun _ => spec_l1PickInt.f l i h (x :: xs)) (fun r => 0 ≤ r.2.1) := by
  obtain ⟨r, i', h', e, p, _⟩ := pick_some l hl i h (x :: xs) h0 (by simp)
  exact En.of ⟨_, e, p⟩
theorem draw3_en (l : List Int) (hl : l.length ≤ maxLen) (i h : Int) (h0 : 0 ≤ i) : En (fun k => spec_l3Draw.f k l i h) (fun r => 0 ≤ r.2.2.2.2.2.2.2.2.2.2.2.2.2.2.1) := by
  unfold spec_l3Draw.f
  refine En.bind (drawRight_en l hl i h h0) (fun r1 h1 => ?_)
  refine En.bind (below_en l hl _ _ _ h1) (fun r2 h2 => ?_)
  refine En.ite (fun _ => En.bind (pick_en l hl _ _ _ _ h2) (fun r3 h3 => draw3j_en l _ _ h3 _ _ _ _ _ _ _ _ _ _ _ _ _ _)) (fun _ => ?_)
  refine En.ite (fun _ => En.bind (pick_en l hl _ _ _ _ h2) (fun r3 h3 => draw3j_en l _ _ h3 _ _ _ _ _ _ _ _ _ _ _ _ _ _)) (fun _ => ?_)
  refine En.ite (fun _ => En.bind (below_en l hl _ _ _ h2) (fun r3 h3 => draw3j_en l _ _ h3 _ _ _ _ _ _ _ _ _ _ _ _ _ _)) (fun _ => ?_)
  refine En.ite (fun _ => En.bind (below_en l hl _ _ _ h2) (fun r3 h3 => draw3j_en l _ _ h3 _ _ _ _ _ _ _ _ _ _ _ _ _ _)) (fun _ => ?_)
  refine En.ite (fun _ => En.bind (below_en l hl _ _ _ h2) (fun r3 h3 => draw3j_en l _ _ h3 _ _ _ _ _ _ _ _ _ _ _ _ _ _)) (fun _ => ?_)
  refine En.ite (fun _ => En.bind (pick_en l hl _ _ _ _ h2) (fun r3 h3 => draw3j_en l _ _ h3 _ _ _ _ _ _ _ _ _ _ _ _ _ _)) (fun _ => ?_)
  refine En.ite (fun _ => En.bind (pick_en l hl _ _ _ _ h2) (fun r3 h3 => draw3j_en l _ _ h3 _ _ _ _ _ _ _ _ _ _ _ _ _ _)) (fun _ => ?_)
  refine En.ite (fun _ => En.bind (below_en l hl _ _ _ h2) (fun r3 h3 => draw3j_en l _ _ h3 _ _ _ _ _ _ _ _ _ _ _ _ _ _)) (fun _ => ?_)
  exact draw3j_en l _ _ h2 _ _ _ _ _ _ _ _ _ _ _ _ _ _
theorem draw4_loop (l : List Int) (hl : l.length ≤ maxLen) : ∀ (d : Nat) (x i h : Int) (a0 a1 a2 a3 : Int) (a4 : Bool) (a5 a6 a7 a8 a9 a10 a11 a12 a13 : Int), 0 ≤ i → 0 ≤ x → x ≤ 4 → 4 - x = (d : Int) → En (fun k => spec_l4Draw.l0 k x l i h a0 a1 a2 a3 a4 a5 a6 a7 a8 a9 a10 a11 a12 a13) (fun r => 0 ≤ r.2.2.2.2.2.2.2.2.2.2.2.2.2.2.1) := by
  intro d
  induction d with
  | zero =>
    intro x i h a0 a1 a2 a3 a4 a5 a6 a7 a8 a9 a10 a11 a12 a13 h0 hx0 hx hd
    refine En.step (fun k => by simp only [spec_l4Draw.l0]; rfl) ?_
    exact En.ite (fun z => absurd z (by omega)) (fun _ => En.now h0)
  | succ d ih =>
    intro x i h a0 a1 a2 a3 a4 a5 a6 a7 a8 a9 a10 a11 a12 a13 h0 hx0 hx hd
    refine En.step (fun k => by simp only [spec_l4Draw.l0]; rfl) ?_
    refine En.ite (fun _ => ?_) (fun _ => En.now h0)
    refine En.ite (fun _ => En.now h0) (fun _ => ?_)
    refine En.bind (draw3_en l hl _ _ h0) (fun r hr => ?_)
    rw [wr _ (by omega) (by omega)]
    exact ih (x + 1) _ _ _ _ _ _ _ _ _ _ _ _ _ _ _ _ hr (by omega) (by omega) (by omega)
theorem draw4_en (l : List Int) (hl : l.length ≤ maxLen) (i h : Int) (h0 : 0 ≤ i) : En (fun k => spec_l4Draw.f k l i h) (fun r => 0 ≤ r.2.2.2.2.2.2.2.2.2.2.2.2.2.2.1) := by
  unfold spec_l4Draw.f
  refine En.bind (draw3_en l hl _ _ h0) (fun r hr => ?_)
  exact draw4_loop l hl 4 0 _ _ _ _ _ _ _ _ _ _ _ _ _ _ _ _ hr (by omega) (by omega) (by omega)
theorem drawNow_en (l : List Int) (hl : l.length ≤ maxLen) (i h : Int) (h0 : 0 ≤ i) : En (fun _ => spec_l4DrawNow.f l i h) (fun r => 0 ≤ r.2.1) := by
  unfold spec_l4DrawNow.f
  refine En.bind (once_en l hl _ _ _ h0) (fun r hr => ?_)
  refine En.ite (fun _ => ?_) (fun _ => ?_)
  · exact En.bind (pick_en l hl _ _ _ _ hr) (fun s hs => En.now hs)
  · exact En.bind (below_en l hl _ _ _ hr) (fun s hs => En.now hs)
/-! The cursor over the drawn bytes: whatever it holds, a draw answers. -/
theorem new_loop (l : List Int) (hl : l.length ≤ maxLen) (d : Nat) : ∀ (k : Nat) (h i : Int), 0 ≤ i → (l.length : Int) - i ≤ d → d < k → ∃ h', spec_l1New.l0 k l h i = some (l, 0, h') := by
  unfold maxLen at hl
  induction d with
  | zero =>
    intro k h i h0 hd hk
    obtain ⟨k, rfl⟩ : ∃ m, k = m + 1 := ⟨k - 1, by omega⟩
    exact ⟨h, by simp only [spec_l1New.l0]; rw [if_neg (by omega)]⟩
  | succ d ih =>
    intro k h i h0 hd hk
    obtain ⟨k, rfl⟩ : ∃ m, k = m + 1 := ⟨k - 1, by omega⟩
    simp only [spec_l1New.l0]
    by_cases e : i < (l.length : Int)
    · rw [if_pos e]
      by_cases e2 : i < 4000
      · rw [if_pos e2, if_pos h0, wr (i + 1) (by omega) (by omega)]
        exact ih k _ _ (by omega) (by omega) (by omega)
      · rw [if_neg e2]
        exact ⟨_, rfl⟩
    · rw [if_neg e]
      exact ⟨_, rfl⟩
theorem new_ev (l : List Int) (hl : l.length ≤ maxLen) : ∃ h, Ev (fun k => spec_l1New.f k l) (l, 0, h) := by
  obtain ⟨h, e⟩ := new_loop l hl l.length (l.length + 1) (wrap64 (18511 + (l.length : Int))) 0 (by omega) (by omega) (by omega)
  exact ⟨h, Ev.of (fun k => spec_l1New.mono l k) e⟩
theorem new_en (l : List Int) (hl : l.length ≤ maxLen) : En (fun k => spec_l1New.f k l) (fun r => r.1 = l ∧ 0 ≤ r.2.1) := by
  obtain ⟨h, e⟩ := new_ev l hl
  exact ⟨_, e, rfl, Int.le_refl _⟩
theorem drawDueWake_en (l : List Int) (hl : l.length ≤ maxLen) : En (fun k => spec_DrawDueWake.f k l) (fun _ => True) := by
  unfold spec_DrawDueWake.f
  refine En.bind (new_en l hl) (fun r hr => ?_)
  rw [hr.1]
  refine En.bind (draw4_en l hl _ _ hr.2) (fun s hs => ?_)
  exact En.bind (drawNow_en l hl _ _ hs) (fun s _ => En.now trivial)
theorem in_eq (a b c : Int) : impl_in.f a b c = some (decide (b ≤ a ∧ a ≤ c)) := by
  unfold impl_in.f
  by_cases h : a ≥ b
  · rw [if_pos h]; simp [show b ≤ a from h]
  · rw [if_neg h]; simp; omega
theorem isDue_eq (a0 a1 a2 a3 : Int) (a4 : Bool) (a5 a6 a7 a8 a9 a10 a11 a12 a13 : Int) : impl_isDue.f a0 a1 a2 a3 a4 a5 a6 a7 a8 a9 a10 a11 a12 a13 = some (decide (TaskP a0 a1 a2 a3 a5 a6 a7 a8 a9 a10 a11 a12 a13 ∧ a1 = 1)) := by
  unfold impl_isDue.f impl_TaskOk.f
  by_cases h : a1 = 1
  · rw [if_pos h]
    simp [h]
  · rw [if_neg h]
    simp [h]
theorem sisDue_eq (a0 a1 a2 a3 : Int) (a4 : Bool) (a5 a6 a7 a8 a9 a10 a11 a12 a13 : Int) : spec_l4Due.f a0 a1 a2 a3 a4 a5 a6 a7 a8 a9 a10 a11 a12 a13 = some (decide (TaskP a0 a1 a2 a3 a5 a6 a7 a8 a9 a10 a11 a12 a13 ∧ a1 = 1)) := by
  unfold spec_l4Due.f spec_TaskOk.f
  simp only [Option.bind_some, decide_eq_true_eq]
  by_cases h : TaskP a0 a1 a2 a3 a5 a6 a7 a8 a9 a10 a11 a12 a13
  · simp [h, dBeq]
  · simp [h]
theorem dueWake_eq (k : Nat) (a0 a1 a2 a3 : Int) (a4 : Bool) (a5 a6 a7 a8 a9 a10 a11 a12 a13 : Int) (now : Int) : impl_DueWake.f k a0 a1 a2 a3 a4 a5 a6 a7 a8 a9 a10 a11 a12 a13 now = spec_DueWake.f k a0 a1 a2 a3 a4 a5 a6 a7 a8 a9 a10 a11 a12 a13 now := by
  unfold impl_DueWake.f spec_DueWake.f
  simp only [isDue_eq, sisDue_eq, in_eq, sin_eq, impl_isTime.f, Option.bind_some]
  cases k <;> simp only [impl_DueWake.j0, spec_DueWake.j0, in_eq, sin_eq, impl_isTime.f, Option.bind_some]
/-- Whether a task with a deadline has all again when it is woken. -/
def wakeC (now a5 a6 a7 a8 : Int) : Prop := a8 ≤ now ∨ wrap64 (a7 * a6) > wrap64 (wrap64 (a8 - now) * a5)
theorem dueWake_j0 (now : Int) (a0 a1 a2 a3 : Int) (a4 : Bool) (a5 a6 a7 a8 a9 a10 a11 a12 a13 : Int) (b : Bool) : (wakeC now a5 a6 a7 a8 → Ev (fun k => impl_DueWake.j0 k now false a0 a1 a2 a3 a4 a5 a6 a7 a8 a9 a10 a11 a12 a13) (a0, a1, a2, a3, a4, a5, a6, a5, wrap64 (now + a6), a9, a10, a11, a12, a13)) ∧ (b = true ∨ ¬ wakeC now a5 a6 a7 a8 → Ev (fun k => impl_DueWake.j0 k now b a0 a1 a2 a3 a4 a5 a6 a7 a8 a9 a10 a11 a12 a13) (a0, a1, a2, a3, a4, a5, a6, a7, a8, a9, a10, a11, a12, a13)) := by
  constructor
  · intro h
    refine Ev.step (fun k => by simp only [impl_DueWake.j0]; rfl) ?_
    refine evNeg (by decide) ?_
    rcases h with h | h
    · exact evPos h (Ev.now _)
    · by_cases g : a8 ≤ now
      · exact evPos g (Ev.now _)
      · exact evNeg g (evPos h (Ev.now _))
  · intro h
    refine Ev.step (fun k => by simp only [impl_DueWake.j0]; rfl) ?_
    cases b with
    | true => exact evPos (by trivial) (Ev.now _)
    | false =>
      have h := h.resolve_left (by decide)
      exact evNeg (by decide) (evNeg (fun z => h (.inl z)) (evNeg (fun z => h (.inr z)) (Ev.now _)))
theorem dueWake_ev (now : Int) (a0 a1 a2 a3 : Int) (a4 : Bool) (a5 a6 a7 a8 a9 a10 a11 a12 a13 : Int) : ((TaskP a0 a1 a2 a3 a5 a6 a7 a8 a9 a10 a11 a12 a13 ∧ a1 = 1) ∧ (0 ≤ now ∧ now ≤ 100000) ∧ wakeC now a5 a6 a7 a8 → Ev (fun k => impl_DueWake.f k a0 a1 a2 a3 a4 a5 a6 a7 a8 a9 a10 a11 a12 a13 now) (a0, a1, a2, a3, a4, a5, a6, a5, wrap64 (now + a6), a9, a10, a11, a12, a13)) ∧ (¬ ((TaskP a0 a1 a2 a3 a5 a6 a7 a8 a9 a10 a11 a12 a13 ∧ a1 = 1) ∧ (0 ≤ now ∧ now ≤ 100000) ∧ wakeC now a5 a6 a7 a8) → Ev (fun k => impl_DueWake.f k a0 a1 a2 a3 a4 a5 a6 a7 a8 a9 a10 a11 a12 a13 now) (a0, a1, a2, a3, a4, a5, a6, a7, a8, a9, a10, a11, a12, a13)) := by
  unfold impl_DueWake.f
  simp only [isDue_eq, in_eq, impl_isTime.f, Option.bind_some, decide_eq_true_eq]
  constructor
  · rintro ⟨h1, h2, h3⟩
    refine evPos h1 ?_
    rw [decide_eq_true h2]
    exact (dueWake_j0 now a0 a1 a2 a3 a4 a5 a6 a7 a8 a9 a10 a11 a12 a13 false).1 h3
  · intro h
    by_cases h1 : TaskP a0 a1 a2 a3 a5 a6 a7 a8 a9 a10 a11 a12 a13 ∧ a1 = 1
    · refine evPos h1 ((dueWake_j0 now a0 a1 a2 a3 a4 a5 a6 a7 a8 a9 a10 a11 a12 a13 _).2 ?_)
      by_cases h2 : 0 ≤ now ∧ now ≤ 100000
      · exact .inr fun h3 => h ⟨h1, h2, h3⟩
      · rw [decide_eq_false h2]
        exact .inl rfl
    · exact evNeg h1 ((dueWake_j0 now a0 a1 a2 a3 a4 a5 a6 a7 a8 a9 a10 a11 a12 a13 true).2 (.inl rfl))
theorem mul_room (x y X Y : Int) (h0 : 0 ≤ x) (h1 : x ≤ X) (h2 : 0 ≤ y) (h3 : y ≤ Y) : 0 ≤ x * y ∧ x * y ≤ X * Y := ⟨Int.mul_nonneg h0 h2, Int.mul_le_mul h1 h3 h2 (by omega)⟩
theorem FnWoken : laws_FnWoken.Pure := by
  intro l hl _ _
  refine Ev.rounds (r := true) ?_
  unfold laws_FnWoken.f laws_big.f
  simp only [Option.bind_some, decide_eq_true_eq]
  by_cases hb : (l.length : Int) > 1048576
  · exact evPos hb (Ev.now _)
  · refine evNeg hb ?_
    obtain ⟨⟨a0, a1, a2, a3, a4, a5, a6, a7, a8, a9, a10, a11, a12, a13, now⟩, e, _⟩ := drawDueWake_en l hl
    refine Ev.bind e ?_
    simp only [← dueWake_eq]
    by_cases hc : (TaskP a0 a1 a2 a3 a5 a6 a7 a8 a9 a10 a11 a12 a13 ∧ a1 = 1) ∧ (0 ≤ now ∧ now ≤ 100000) ∧ wakeC now a5 a6 a7 a8
    · have hv := (dueWake_ev now a0 a1 a2 a3 a4 a5 a6 a7 a8 a9 a10 a11 a12 a13).1 hc
      refine Ev.bind hv (Ev.bind hv ?_)
      obtain ⟨⟨ht, h1⟩, hn, hw⟩ := hc
      have hq : TaskP a0 a1 a2 a3 a5 a6 a5 (now + a6) a9 a10 a11 a12 a13 ∧ 1 ≤ a6 ∧ a6 ≤ 40 ∧ 1 ≤ a5 ∧ a5 ≤ a6 := by
        unfold TaskP at ht ⊢
        omega
      obtain ⟨hq, q1, q2, q3, q4⟩ := hq
      have en : wrap64 (now + a6) = now + a6 := wr _ (by omega) (by omega)
      have m := mul_room a5 a6 40 40 (by omega) (by omega) (by omega) (by omega)
      have em : a6 * a5 = a5 * a6 := Int.mul_comm _ _
      have e1 : wrap64 (a5 * a6) = a5 * a6 := wr _ (by omega) (by omega)
      have e2 : wrap64 (now + a6 - now) = a6 := by rw [show now + a6 - now = a6 by omega]; exact wr _ (by omega) (by omega)
      rw [en]
      refine Ev.step (fun k => by simp only [laws_FnWoken.j0]; rfl) ?_
      refine evNeg (by simp) ?_
      simp only [spec_TaskOk.f, Option.bind_some, decide_eq_true_eq]
      refine evPos ht (evPos h1 (evNeg (by omega) ?_))
      rw [decide_eq_false (show ¬ now > 100000 by omega)]
      refine Ev.step (fun k => by simp only [laws_FnWoken.j1, impl_TaskOk.f, Option.bind_some, decide_eq_true_eq]; rfl) ?_
      have nw : ¬ wakeC now a5 a6 a5 (now + a6) := by
        unfold wakeC
        rw [e2, em, e1]
        omega
      refine evNeg (by decide) (evPos hq (evPos (by omega) (evPos ?_ (Ev.bind ((dueWake_ev now a0 a1 a2 a3 a4 a5 a6 a5 (now + a6) a9 a10 a11 a12 a13).2 fun z => nw z.2.2) ?_))))
      · rw [e2, em, e1]
        omega
      · refine evPos (by simp) ?_
        rw [en]
        by_cases g1 : now + a6 = a8
        · refine evPos g1 ?_
          by_cases g2 : a5 = a7
          · exact evPos g2 (Ev.now _)
          · exact evNeg g2 (evPos (by trivial) (evEq _ (fun _ => rfl) (by simp)))
        · exact evNeg g1 (evPos (by trivial) (evEq _ (fun _ => rfl) (by simp)))
    · have hv := (dueWake_ev now a0 a1 a2 a3 a4 a5 a6 a7 a8 a9 a10 a11 a12 a13).2 hc
      refine Ev.bind hv (Ev.bind hv ?_)
      refine Ev.step (fun k => by simp only [laws_FnWoken.j0]; rfl) ?_
      refine evNeg (by simp) ?_
      simp only [spec_TaskOk.f, Option.bind_some, decide_eq_true_eq]
      have jt : Ev (fun k => laws_FnWoken.j1 k now true a0 a1 a2 a3 a4 a5 a6 a7 a8 a9 a10 a11 a12 a13 a0 a1 a2 a3 a4 a5 a6 a7 a8 a9 a10 a11 a12 a13) true := by
        refine Ev.step (fun k => by simp only [laws_FnWoken.j1]; rfl) ?_
        exact evPos (by trivial) (evEq _ (fun _ => rfl) (by simp))
      by_cases h : TaskP a0 a1 a2 a3 a5 a6 a7 a8 a9 a10 a11 a12 a13
      · refine evPos h ?_
        by_cases h1 : a1 = 1
        · refine evPos h1 ?_
          by_cases h2 : now < 0
          · exact evPos h2 jt
          · refine evNeg h2 ?_
            by_cases h3 : now > 100000
            · rw [decide_eq_true h3]
              exact jt
            · rw [decide_eq_false h3]
              have hw : ¬ wakeC now a5 a6 a7 a8 := fun z => hc ⟨⟨h, h1⟩, ⟨by omega, by omega⟩, z⟩
              have hw1 : ¬ a8 ≤ now := fun z => hw (.inl z)
              have hw2 : ¬ wrap64 (a7 * a6) > wrap64 (wrap64 (a8 - now) * a5) := fun z => hw (.inr z)
              refine Ev.step (fun k => by simp only [laws_FnWoken.j1, impl_TaskOk.f, Option.bind_some, decide_eq_true_eq]; rfl) ?_
              refine evNeg (by decide) (evPos h (evPos (by omega) (evPos (by omega) (Ev.bind hv ?_))))
              exact evPos (by simp) (evPos (by trivial) (evPos (by trivial) (Ev.now _)))
        · exact evNeg h1 jt
      · exact evNeg h jt

end Go.Proofs.Ytphkgmdbdnjmbaa.Pure
