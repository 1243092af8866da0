/- The pure statement of FnMoved, over numbers and lists: a drawn task that is moved is as far above the new floor as it was above the old one. Conditions: those of the statement (the drawn bytes lie in memory). -/
import Derived.Test.YtnokdjkkgcpbdabPrintLawsFnMoved
set_option linter.unusedVariables false
set_option linter.unusedSimpArgs false
namespace Go.Proofs.Ytnokdjkkgcpbdab.Pure
open Go.RowKit Go.Proofs.Ytnokdjkkgcpbdab.Print Go.Proofs.YtnokdjkkgcpbdabW.PrintWords Go.Proofs.YtnokdjkkgcpbdabW.PrintLast Go.Proofs.YtnokdjkkgcpbdabW.PrintMore Go.Proofs.Ytnokdjkkgcpbdab.Base

/-! A draw answers, and with what. -/
def En {α : Type} (f : Nat → Option α) (Q : α → Prop) : Prop := ∃ r, Ev f r ∧ Q r
theorem En.bind {α β : Type} {f : Nat → Option α} {P : α → Prop} {g : α → Nat → Option β} {Q : β → Prop} (h : En f P) (hg : ∀ r, P r → En (fun k => g r k) Q) : En (fun k => (f k).bind (fun r => g r k)) Q := by
  obtain ⟨r, e, p⟩ := h
  obtain ⟨s, e2, q⟩ := hg r p
  exact ⟨s, Ev.bind e e2, q⟩
theorem En.now {α : Type} {r : α} {Q : α → Prop} (h : Q r) : En (fun _ => some r) Q := ⟨r, Ev.now r, h⟩
theorem En.of {α : Type} {o : Option α} {P : α → Prop} (h : ∃ r, o = some r ∧ P r) : En (fun _ => o) P := by
  obtain ⟨r, e, p⟩ := h
  exact ⟨r, ⟨0, fun _ _ => e⟩, p⟩
theorem and255 (x : Int) : 0 ≤ Go.bits .and .i64 x 255 ∧ Go.bits .and .i64 x 255 ≤ 255 := by
  have e : Go.bits .and .i64 x 255 = IntKind.i64.wrap (((BitVec.ofInt 64 x) &&& (BitVec.ofInt 64 255)).toNat : Nat) := rfl
  have h : ((BitVec.ofInt 64 x) &&& (BitVec.ofInt 64 255)).toNat ≤ 255 := by rw [BitVec.toNat_and]; exact Nat.and_le_right
  rw [e, IntKind.wrap_i64]
  omega
theorem byte_some (l : List Int) (hl : l.length ≤ maxLen) (i h : Int) (h0 : 0 ≤ i) : ∃ b i' h', spec_l1Byte.f l i h = some (b, i', h') ∧ 0 ≤ b ∧ b ≤ 255 ∧ 0 ≤ i' := by
  unfold maxLen at hl
  unfold spec_l1Byte.f
  by_cases e : i < (l.length : Int)
  · rw [if_pos e, if_pos h0, wr (i + 1) (by omega) (by omega)]
    exact ⟨_, _, _, rfl, (and255 _).1, (and255 _).2, by omega⟩
  · rw [if_neg e]
    exact ⟨_, _, _, rfl, (and255 _).1, (and255 _).2, by omega⟩
theorem below_some (l : List Int) (hl : l.length ≤ maxLen) (i h n : Int) (h0 : 0 ≤ i) : ∃ r i' h', spec_l1Below.f l i h n = some (r, i', h') ∧ 0 ≤ i' ∧ 0 ≤ r ∧ (0 < n → r < n) ∧ (n ≤ 0 → r = 0) := by
  unfold spec_l1Below.f
  by_cases e : n ≤ 0
  · rw [if_pos e]
    exact ⟨_, _, _, rfl, h0, by omega, by omega, by omega⟩
  · rw [if_neg e]
    obtain ⟨b, i1, h1, e1, b0, b1, p1⟩ := byte_some l hl i h h0
    by_cases e2 : n ≤ 256
    · rw [if_pos e2, e1]
      simp only [Option.bind_some]
      rw [if_neg (by omega)]
      have := Int.tmod_nonneg n b0
      have := Int.tmod_lt_of_pos b (show 0 < n by omega)
      exact ⟨_, _, _, rfl, p1, by omega, by omega, by omega⟩
    · rw [if_neg e2, e1]
      simp only [Option.bind_some]
      obtain ⟨c, i2, h2, e3, c0, c1, p2⟩ := byte_some l hl i1 h1 p1
      rw [e3]
      simp only [Option.bind_some]
      obtain ⟨d, i3, h3, e4, d0, d1, p3⟩ := byte_some l hl i2 h2 p2
      rw [e4]
      simp only [Option.bind_some]
      obtain ⟨f, i4, h4, e5, f0, f1, p4⟩ := byte_some l hl i3 h3 p3
      rw [e5]
      simp only [Option.bind_some]
      rw [if_neg (by omega), wr (b * 16777216) (by omega) (by omega), wr (c * 65536) (by omega) (by omega), wr (d * 256) (by omega) (by omega), wr (b * 16777216 + c * 65536) (by omega) (by omega), wr (b * 16777216 + c * 65536 + d * 256) (by omega) (by omega), wr (b * 16777216 + c * 65536 + d * 256 + f) (by omega) (by omega)]
      have := Int.tmod_nonneg n (show 0 ≤ b * 16777216 + c * 65536 + d * 256 + f by omega)
      have := Int.tmod_lt_of_pos (b * 16777216 + c * 65536 + d * 256 + f) (show 0 < n by omega)
      exact ⟨_, _, _, rfl, p4, by omega, by omega, by omega⟩
theorem below_en (l : List Int) (hl : l.length ≤ maxLen) (i h n : Int) (h0 : 0 ≤ i) : En (fun _ => spec_l1Below.f l i h n) (fun r => 0 ≤ r.2.1) := by
  obtain ⟨r, i', h', e, p, _⟩ := below_some l hl i h n h0
  exact En.of ⟨_, e, p⟩
theorem En.ite {α : Type} {c : Prop} [Decidable c] {f g : Nat → Option α} {Q : α → Prop} (h : c → En f Q) (h' : ¬ c → En g Q) : En (fun k => if c then f k else g k) Q := by
  by_cases hc : c
  · obtain ⟨r, e, q⟩ := h hc
    exact ⟨r, evPos hc e, q⟩
  · obtain ⟨r, e, q⟩ := h' hc
    exact ⟨r, evNeg hc e, q⟩
theorem En.step {α : Type} {f g : Nat → Option α} {Q : α → Prop} (h : ∀ k, f (k + 1) = g k) (e : En g Q) : En f Q := by
  obtain ⟨r, e, q⟩ := e
  exact ⟨r, Ev.step h e, q⟩
theorem draw3j_en (l : List Int) (i h : Int) (h0 : 0 ≤ i) (a0 a1 a2 a3 : Int) (a4 : Bool) (a5 a6 a7 a8 a9 a10 a11 a12 a13 : Int) : En (fun k => spec_l3Draw.j0 k l i h a0 a1 a2 a3 a4 a5 a6 a7 a8 a9 a10 a11 a12 a13) (fun r => 0 ≤ r.2.2.2.2.2.2.2.2.2.2.2.2.2.2.1) := by
  refine En.step (fun k => by simp only [spec_l3Draw.j0]; rfl) ?_
  exact En.now h0
theorem once_some (l : List Int) (hl : l.length ≤ maxLen) (i h n : Int) (h0 : 0 ≤ i) : ∃ b i' h', spec_l1Once.f l i h n = some (b, i', h') ∧ 0 ≤ i' := by
  obtain ⟨r, i', h', e, p, _⟩ := below_some l hl i h n h0
  exact ⟨r == 0, i', h', by unfold spec_l1Once.f; rw [e]; rfl, p⟩
theorem once_en (l : List Int) (hl : l.length ≤ maxLen) (i h n : Int) (h0 : 0 ≤ i) : En (fun _ => spec_l1Once.f l i h n) (fun r => 0 ≤ r.2.1) := by
  obtain ⟨r, i', h', e, p⟩ := once_some l hl i h n h0
  exact En.of ⟨_, e, p⟩
theorem drawRight0_en (l : List Int) (hl : l.length ≤ maxLen) (i h : Int) (h0 : 0 ≤ i) (a0 a1 a2 a3 : Int) (a4 : Bool) (a5 a6 a7 a8 a9 a10 a11 a12 a13 : Int) : En (fun k => spec_l3DrawRight.j0 k l i h a0 a1 a2 a3 a4 a5 a6 a7 a8 a9 a10 a11 a12 a13) (fun r => 0 ≤ r.2.2.2.2.2.2.2.2.2.2.2.2.2.2.1) := by
  refine En.step (fun k => by simp only [spec_l3DrawRight.j0]; rfl) ?_
  refine En.bind (once_en l hl _ _ _ h0) (fun r hr => ?_)
  refine En.ite (fun _ => ?_) (fun _ => ?_)
  all_goals
    refine En.bind (once_en l hl _ _ _ hr) (fun s hs => ?_)
    exact En.now hs
theorem sin_eq (a b c : Int) : spec_l1In.f a b c = some (decide (b ≤ a ∧ a ≤ c)) := by
  unfold spec_l1In.f
  by_cases h : a ≥ b
  · rw [if_pos h]; simp [show b ≤ a from h]
  · rw [if_neg h]; simp; omega
theorem snew_some (a0 a1 a2 a3 : Int) (a4 : Bool) (a5 a6 a7 a8 a9 a10 a11 a12 a13 : Int) : ∃ r, spec_l3New.f a0 a1 a2 a3 a4 a5 a6 a7 a8 a9 a10 a11 a12 a13 = some r := by
  unfold spec_l3New.f spec_TaskOk.f
  simp only [Option.bind_some]
  split <;> exact ⟨_, rfl⟩
theorem sshare_eq (q p : Int) : spec_ShareOk.f q p = some (decide (ShareP q p)) := by
  unfold spec_ShareOk.f ShareP
  simp only [sin_eq, Option.bind_some, decide_eq_true_eq]
  by_cases h : 1 ≤ p ∧ p ≤ 40
  · simp only [h, and_self, if_true, true_and]
  · simp only [h, if_false, false_and, decide_false]
theorem snewDue_some (no cpu q p now : Int) : ∃ r, spec_NewDue.f no cpu q p now = some r := by
  unfold spec_NewDue.f
  obtain ⟨r, hr⟩ := snew_some no 1 cpu 1 false q p q (wrap64 (now + p)) 0 0 0 0 0
  simp only [sin_eq, sshare_eq, hr, Option.bind_some]
  repeat' split
  all_goals exact ⟨_, rfl⟩
theorem snewFair_some (no cpu nice v : Int) : ∃ r, spec_NewFair.f no cpu nice v = some r := by
  unfold spec_NewFair.f
  obtain ⟨r, hr⟩ := snew_some no 3 cpu 1 false 0 0 0 0 0 0 0 nice v
  simp only [hr, Option.bind_some]
  exact ⟨_, rfl⟩
theorem snewFixed_some (no cpu prio round seq : Int) : ∃ r, spec_NewFixed.f no cpu prio round seq = some r := by
  unfold spec_NewFixed.f
  obtain ⟨r, hr⟩ := snew_some no 2 cpu 1 false 0 0 round 0 prio round seq 0 0
  simp only [hr, Option.bind_some]
  exact ⟨_, rfl⟩
theorem some_en {α : Type} {o : Option α} (h : ∃ r, o = some r) : En (fun _ => o) (fun _ => True) := by
  obtain ⟨r, e⟩ := h
  exact En.of ⟨r, e, trivial⟩
theorem drawRight_en (l : List Int) (hl : l.length ≤ maxLen) (i h : Int) (h0 : 0 ≤ i) : En (fun k => spec_l3DrawRight.f k l i h) (fun r => 0 ≤ r.2.2.2.2.2.2.2.2.2.2.2.2.2.2.1) := by
  unfold spec_l3DrawRight.f
  refine En.bind (below_en l hl _ _ _ h0) (fun r1 h1 => ?_)
  refine En.bind (below_en l hl _ _ _ h1) (fun r2 h2 => ?_)
  refine En.bind (below_en l hl _ _ _ h2) (fun r3 h3 => ?_)
  refine En.ite (fun _ => ?_) (fun _ => En.ite (fun _ => ?_) (fun _ => ?_))
  · refine En.bind (below_en l hl _ _ _ h3) (fun r4 h4 => ?_)
    refine En.bind (below_en l hl _ _ _ h4) (fun r5 h5 => ?_)
    refine En.bind (below_en l hl _ _ _ h5) (fun r6 h6 => ?_)
    refine En.bind (some_en (snewDue_some _ _ _ _ _)) (fun r7 _ => ?_)
    refine En.bind (below_en l hl _ _ _ h6) (fun r8 h8 => ?_)
    exact drawRight0_en l hl _ _ h8 _ _ _ _ _ _ _ _ _ _ _ _ _ _
  · refine En.bind (below_en l hl _ _ _ h3) (fun r4 h4 => ?_)
    refine En.bind (below_en l hl _ _ _ h4) (fun r5 h5 => ?_)
    refine En.bind (below_en l hl _ _ _ h5) (fun r6 h6 => ?_)
    refine En.bind (some_en (snewFixed_some _ _ _ _ _)) (fun r7 _ => ?_)
    refine En.ite (fun _ => ?_) (fun _ => ?_)
    · refine En.bind (below_en l hl _ _ _ h6) (fun r8 h8 => ?_)
      exact drawRight0_en l hl _ _ h8 _ _ _ _ _ _ _ _ _ _ _ _ _ _
    · exact drawRight0_en l hl _ _ h6 _ _ _ _ _ _ _ _ _ _ _ _ _ _
  · refine En.bind (below_en l hl _ _ _ h3) (fun r4 h4 => ?_)
    refine En.bind (below_en l hl _ _ _ h4) (fun r5 h5 => ?_)
    refine En.bind (some_en (snewFair_some _ _ _ _)) (fun r7 _ => ?_)
    exact drawRight0_en l hl _ _ h5 _ _ _ _ _ _ _ _ _ _ _ _ _ _
theorem pick_some (l : List Int) (hl : l.length ≤ maxLen) (i h : Int) (xs : List Int) (h0 : 0 ≤ i) (hx : 0 < xs.length) : ∃ r i' h', spec_l1PickInt.f l i h xs = some (r, i', h') ∧ 0 ≤ i' ∧ r ∈ xs := by
  unfold spec_l1PickInt.f
  obtain ⟨r, i1, h1, e, p1, r0, r1, _⟩ := below_some l hl i h (xs.length : Int) h0
  have r1 := r1 (by omega)
  rw [e]
  simp only [Option.bind_some]
  rw [if_pos r0, if_pos r1]
  refine ⟨_, _, _, rfl, p1, ?_⟩
  unfold rd
  rw [List.getD_eq_getElem?_getD, List.getElem?_eq_getElem (by omega), Option.getD_some]
  exact List.getElem_mem _
theorem pick_en (l : List Int) (hl : l.length ≤ maxLen) (i h : Int) (x : Int) (xs : List Int) (h0 : 0 ≤ i) : En (fun _ => spec_l1PickInt.f l i h (x :: xs)) (fun r => 0 ≤ r.2.1) := by
  obtain ⟨r, i', h', e, p, _⟩ := pick_some l hl i h (x :: xs) h0 (by simp)
  exact En.of ⟨_, e, p⟩
theorem draw3_en (l : List Int) (hl : l.length ≤ maxLen) (i h : Int) (h0 : 0 ≤ i) : En (fun k => spec_l3Draw.f k l i h) (fun r => 0 ≤ r.2.2.2.2.2.2.2.2.2.2.2.2.2.2.1) := by
  unfold spec_l3Draw.f
  refine En.bind (drawRight_en l hl i h h0) (fun r1 h1 => ?_)
  refine En.bind (below_en l hl _ _ _ h1) (fun r2 h2 => ?_)
  refine En.ite (fun _ => En.bind (pick_en l hl _ _ _ _ h2) (fun r3 h3 => draw3j_en l _ _ h3 _ _ _ _ _ _ _ _ _ _ _ _ _ _)) (fun _ => ?_)
  refine En.ite (fun _ => En.bind (pick_en l hl _ _ _ _ h2) (fun r3 h3 => draw3j_en l _ _ h3 _ _ _ _ _ _ _ _ _ _ _ _ _ _)) (fun _ => ?_)
  refine En.ite (fun _ => En.bind (below_en l hl _ _ _ h2) (fun r3 h3 => draw3j_en l _ _ h3 _ _ _ _ _ _ _ _ _ _ _ _ _ _)) (fun _ => ?_)
  refine En.ite (fun _ => En.bind (below_en l hl _ _ _ h2) (fun r3 h3 => draw3j_en l _ _ h3 _ _ _ _ _ _ _ _ _ _ _ _ _ _)) (fun _ => ?_)
  refine En.ite (fun _ => En.bind (below_en l hl _ _ _ h2) (fun r3 h3 => draw3j_en l _ _ h3 _ _ _ _ _ _ _ _ _ _ _ _ _ _)) (fun _ => ?_)
  refine En.ite (fun _ => En.bind (pick_en l hl _ _ _ _ h2) (fun r3 h3 => draw3j_en l _ _ h3 _ _ _ _ _ _ _ _ _ _ _ _ _ _)) (fun _ => ?_)
  refine En.ite (fun _ => En.bind (pick_en l hl _ _ _ _ h2) (fun r3 h3 => draw3j_en l _ _ h3 _ _ _ _ _ _ _ _ _ _ _ _ _ _)) (fun _ => ?_)
  refine En.ite (fun _ => En.bind (below_en l hl _ _ _ h2) (fun r3 h3 => draw3j_en l _ _ h3 _ _ _ _ _ _ _ _ _ _ _ _ _ _)) (fun _ => ?_)
  exact draw3j_en l _ _ h2 _ _ _ _ _ _ _ _ _ _ _ _ _ _
theorem draw6_loop (l : List Int) (hl : l.length ≤ maxLen) : ∀ (d : Nat) (x i h : Int) (a0 a1 a2 a3 : Int) (a4 : Bool) (a5 a6 a7 a8 a9 a10 a11 a12 a13 : Int), 0 ≤ i → 0 ≤ x → x ≤ 4 → 4 - x = (d : Int) → En (fun k => spec_l6Draw.l0 k x l i h a0 a1 a2 a3 a4 a5 a6 a7 a8 a9 a10 a11 a12 a13) (fun r => 0 ≤ r.2.2.2.2.2.2.2.2.2.2.2.2.2.2.1) := by
  intro d
  induction d with
  | zero =>
    intro x i h a0 a1 a2 a3 a4 a5 a6 a7 a8 a9 a10 a11 a12 a13 h0 hx0 hx hd
    refine En.step (fun k => by simp only [spec_l6Draw.l0]; rfl) ?_
    exact En.ite (fun z => absurd z (by omega)) (fun _ => En.now h0)
  | succ d ih =>
    intro x i h a0 a1 a2 a3 a4 a5 a6 a7 a8 a9 a10 a11 a12 a13 h0 hx0 hx hd
    refine En.step (fun k => by simp only [spec_l6Draw.l0]; rfl) ?_
    refine En.ite (fun _ => ?_) (fun _ => En.now h0)
    refine En.ite (fun _ => En.now h0) (fun _ => ?_)
    refine En.bind (draw3_en l hl _ _ h0) (fun r hr => ?_)
    rw [wr _ (by omega) (by omega)]
    exact ih (x + 1) _ _ _ _ _ _ _ _ _ _ _ _ _ _ _ _ hr (by omega) (by omega) (by omega)
theorem draw6_en (l : List Int) (hl : l.length ≤ maxLen) (i h : Int) (h0 : 0 ≤ i) : En (fun k => spec_l6Draw.f k l i h) (fun r => 0 ≤ r.2.2.2.2.2.2.2.2.2.2.2.2.2.2.1) := by
  unfold spec_l6Draw.f
  refine En.bind (draw3_en l hl _ _ h0) (fun r hr => ?_)
  exact draw6_loop l hl 4 0 _ _ _ _ _ _ _ _ _ _ _ _ _ _ _ _ hr (by omega) (by omega) (by omega)
theorem drawFl_en (l : List Int) (hl : l.length ≤ maxLen) (i h : Int) (h0 : 0 ≤ i) : En (fun _ => spec_l6DrawFloor.f l i h) (fun r => 0 ≤ r.2.1) := by
  unfold spec_l6DrawFloor.f
  refine En.bind (once_en l hl _ _ _ h0) (fun r hr => ?_)
  refine En.ite (fun _ => ?_) (fun _ => ?_)
  · exact En.bind (pick_en l hl _ _ _ _ hr) (fun s hs => En.now hs)
  · exact En.bind (below_en l hl _ _ _ hr) (fun s hs => En.now hs)
/-! The cursor over the drawn bytes: whatever it holds, a draw answers. -/
theorem new_loop (l : List Int) (hl : l.length ≤ maxLen) (d : Nat) : ∀ (k : Nat) (h i : Int), 0 ≤ i → (l.length : Int) - i ≤ d → d < k → ∃ h', spec_l1New.l0 k l h i = some (l, 0, h') := by
  unfold maxLen at hl
  induction d with
  | zero =>
    intro k h i h0 hd hk
    obtain ⟨k, rfl⟩ : ∃ m, k = m + 1 := ⟨k - 1, by omega⟩
    exact ⟨h, by simp only [spec_l1New.l0]; rw [if_neg (by omega)]⟩
  | succ d ih =>
    intro k h i h0 hd hk
    obtain ⟨k, rfl⟩ : ∃ m, k = m + 1 := ⟨k - 1, by omega⟩
    simp only [spec_l1New.l0]
    by_cases e : i < (l.length : Int)
    · rw [if_pos e]
      by_cases e2 : i < 4000
      · rw [if_pos e2, if_pos h0, wr (i + 1) (by omega) (by omega)]
        exact ih k _ _ (by omega) (by omega) (by omega)
      · rw [if_neg e2]
        exact ⟨_, rfl⟩
    · rw [if_neg e]
      exact ⟨_, rfl⟩
theorem new_ev (l : List Int) (hl : l.length ≤ maxLen) : ∃ h, Ev (fun k => spec_l1New.f k l) (l, 0, h) := by
  obtain ⟨h, e⟩ := new_loop l hl l.length (l.length + 1) (wrap64 (18511 + (l.length : Int))) 0 (by omega) (by omega) (by omega)
  exact ⟨h, Ev.of (fun k => spec_l1New.mono l k) e⟩
theorem new_en (l : List Int) (hl : l.length ≤ maxLen) : En (fun k => spec_l1New.f k l) (fun r => r.1 = l ∧ 0 ≤ r.2.1) := by
  obtain ⟨h, e⟩ := new_ev l hl
  exact ⟨_, e, rfl, Int.le_refl _⟩
theorem drawFairMove_en (l : List Int) (hl : l.length ≤ maxLen) : En (fun k => spec_DrawFairMove.f k l) (fun _ => True) := by
  unfold spec_DrawFairMove.f
  refine En.bind (new_en l hl) (fun r hr => ?_)
  rw [hr.1]
  refine En.bind (draw6_en l hl _ _ hr.2) (fun s hs => ?_)
  refine En.bind (below_en l hl _ _ _ hs) (fun t ht => ?_)
  refine En.bind (drawFl_en l hl _ _ ht) (fun u hu => ?_)
  exact En.bind (drawFl_en l hl _ _ hu) (fun s _ => En.now trivial)
theorem evTrue {b : Bool} {f : Nat → Option Bool} (h : Ev f true) : Ev (fun k => if b = true then some true else f k) true := by
  cases b
  · exact evNeg (by decide) h
  · exact evPos rfl (Ev.now _)
theorem in_eq (a b c : Int) : impl_in.f a b c = some (decide (b ≤ a ∧ a ≤ c)) := by
  unfold impl_in.f
  by_cases h : a ≥ b
  · rw [if_pos h]; simp [show b ≤ a from h]
  · rw [if_neg h]; simp; omega
theorem isFair_eq (a0 a1 a2 a3 : Int) (a4 : Bool) (a5 a6 a7 a8 a9 a10 a11 a12 a13 : Int) : impl_isFair.f a0 a1 a2 a3 a4 a5 a6 a7 a8 a9 a10 a11 a12 a13 = some (decide (TaskP a0 a1 a2 a3 a5 a6 a7 a8 a9 a10 a11 a12 a13 ∧ a1 = 3)) := by
  unfold impl_isFair.f impl_TaskOk.f
  by_cases h : a1 = 3
  · rw [if_pos h]
    simp [h]
  · rw [if_neg h]
    simp [h]
theorem sMax0 (y : Int) : spec_l1Max.f y 0 = some (mx 0 y) := by
  unfold spec_l1Max.f mx
  by_cases h : y > 0
  · rw [if_pos h, if_pos (show 0 < y from h)]
  · rw [if_neg h, if_neg (show ¬ 0 < y from h)]
theorem sisFair_eq (a0 a1 a2 a3 : Int) (a4 : Bool) (a5 a6 a7 a8 a9 a10 a11 a12 a13 : Int) : spec_l6Fair.f a0 a1 a2 a3 a4 a5 a6 a7 a8 a9 a10 a11 a12 a13 = some (decide (TaskP a0 a1 a2 a3 a5 a6 a7 a8 a9 a10 a11 a12 a13 ∧ a1 = 3)) := by
  unfold spec_l6Fair.f spec_TaskOk.f
  simp only [Option.bind_some, decide_eq_true_eq]
  by_cases h : TaskP a0 a1 a2 a3 a5 a6 a7 a8 a9 a10 a11 a12 a13
  · simp [h, dBeq]
  · simp [h]
theorem fairMove_eq (k : Nat) (a0 a1 a2 a3 : Int) (a4 : Bool) (a5 a6 a7 a8 a9 a10 a11 a12 a13 : Int) (cpu : Int) (fr : Int) (to_ : Int) : impl_FairMove.f k a0 a1 a2 a3 a4 a5 a6 a7 a8 a9 a10 a11 a12 a13 cpu fr to_ = spec_FairMove.f k a0 a1 a2 a3 a4 a5 a6 a7 a8 a9 a10 a11 a12 a13 cpu fr to_ := by
  unfold impl_FairMove.f spec_FairMove.f
  simp only [isFair_eq, sisFair_eq, in_eq, sin_eq, sMax0, Option.bind_some]
  cases k <;> simp only [impl_FairMove.j0, spec_FairMove.j0, in_eq, sin_eq, sMax0, Option.bind_some]
theorem fairMove_val (a0 a1 a2 a3 : Int) (a4 : Bool) (a5 a6 a7 a8 a9 a10 a11 a12 a13 : Int) (cpu fr to_ : Int) : (((TaskP a0 a1 a2 a3 a5 a6 a7 a8 a9 a10 a11 a12 a13 ∧ a1 = 3) ∧ (0 ≤ cpu ∧ cpu ≤ 3) ∧ (0 ≤ fr ∧ fr ≤ 100000000) ∧ (0 ≤ to_ ∧ to_ ≤ 100000000) ∧ to_ + mx 0 (a13 - fr) ≤ 100000000) ∧ Ev (fun k => impl_FairMove.f k a0 a1 a2 a3 a4 a5 a6 a7 a8 a9 a10 a11 a12 a13 cpu fr to_) (a0, a1, cpu, a3, a4, a5, a6, a7, a8, a9, a10, a11, a12, to_ + mx 0 (a13 - fr))) ∨ Ev (fun k => impl_FairMove.f k a0 a1 a2 a3 a4 a5 a6 a7 a8 a9 a10 a11 a12 a13 cpu fr to_) (a0, a1, a2, a3, a4, a5, a6, a7, a8, a9, a10, a11, a12, a13) := by
  have mxb : ∀ y : Int, mx 0 y = if 0 < y then y else 0 := fun _ => rfl
  unfold impl_FairMove.f
  simp only [isFair_eq, in_eq, Option.bind_some, decide_eq_true_eq]
  by_cases h : TaskP a0 a1 a2 a3 a5 a6 a7 a8 a9 a10 a11 a12 a13 ∧ a1 = 3
  · have hv : 0 ≤ a13 ∧ a13 ≤ 100000000 := by have := h.1; unfold TaskP at this; omega
    by_cases h1 : 0 ≤ cpu ∧ cpu ≤ 3
    · by_cases h2 : 0 ≤ fr ∧ fr ≤ 100000000
      · by_cases h3 : 0 ≤ to_ ∧ to_ ≤ 100000000
        · have hm : 0 ≤ mx 0 (a13 - fr) ∧ mx 0 (a13 - fr) ≤ 100000000 := by rw [mxb]; split <;> omega
          have hw : wrap64 (to_ + mx 0 (wrap64 (a13 - fr))) = to_ + mx 0 (a13 - fr) := by
            rw [wr (a13 - fr) (by omega) (by omega), wr _ (by omega) (by omega)]
          by_cases h4 : to_ + mx 0 (a13 - fr) ≤ 100000000
          · refine .inl ⟨⟨h, h1, h2, h3, h4⟩, evPos h (evPos h1 (evPos h2 ?_))⟩
            refine Ev.step (fun k => by simp only [impl_FairMove.j0]; rfl) ?_
            simp only [in_eq, Option.bind_some, h3, decide_true, Bool.not_true, hw]
            refine evNeg (by decide) (evNeg (by omega) (Ev.now _))
          · refine .inr (evPos h (evPos h1 (evPos h2 ?_)))
            refine Ev.step (fun k => by simp only [impl_FairMove.j0]; rfl) ?_
            simp only [in_eq, Option.bind_some, h3, decide_true, Bool.not_true, hw]
            refine evNeg (by decide) (evPos (by omega) (Ev.now _))
        · refine .inr (evPos h (evPos h1 (evPos h2 ?_)))
          refine Ev.step (fun k => by simp only [impl_FairMove.j0]; rfl) ?_
          simp only [in_eq, Option.bind_some, h3, decide_false, Bool.not_false]
          exact evPos trivial (Ev.now _)
      · refine .inr (evPos h (evPos h1 (evNeg h2 ?_)))
        refine Ev.step (fun k => by simp only [impl_FairMove.j0]; rfl) ?_
        exact evPos trivial (Ev.now _)
    · refine .inr (evPos h (evNeg h1 ?_))
      refine Ev.step (fun k => by simp only [impl_FairMove.j0]; rfl) ?_
      exact evPos trivial (Ev.now _)
  · refine .inr (evNeg h ?_)
    refine Ev.step (fun k => by simp only [impl_FairMove.j0]; rfl) ?_
    exact evPos trivial (Ev.now _)
theorem FnMoved : laws_FnMoved.Pure := by
  intro l hl _ _
  refine Ev.rounds (r := true) ?_
  unfold laws_FnMoved.f laws_big.f
  simp only [Option.bind_some, decide_eq_true_eq]
  by_cases hb : (l.length : Int) > 1048576
  · exact evPos hb (Ev.now _)
  · refine evNeg hb ?_
    obtain ⟨⟨a0, a1, a2, a3, a4, a5, a6, a7, a8, a9, a10, a11, a12, a13, cpu, fr, to_⟩, e, _⟩ := drawFairMove_en l hl
    refine Ev.bind e ?_
    simp only [← fairMove_eq]
    rcases fairMove_val a0 a1 a2 a3 a4 a5 a6 a7 a8 a9 a10 a11 a12 a13 cpu fr to_ with ⟨hc, hv⟩ | hv
    · refine Ev.bind hv (Ev.bind hv ?_)
      refine Ev.step (fun k => by simp only [laws_FnMoved.j0]; rfl) ?_
      refine evNeg (by simp) ?_
      obtain ⟨⟨ht, h1⟩, h2, h3, h4, h5⟩ := hc
      have mxb : mx 0 (a13 - fr) = if 0 < a13 - fr then a13 - fr else 0 := rfl
      have hv : 0 ≤ a13 ∧ a13 ≤ 100000000 := by have := ht; unfold TaskP at this; omega
      have hm : 0 ≤ mx 0 (a13 - fr) ∧ mx 0 (a13 - fr) ≤ 100000000 := by rw [mxb]; split <;> omega
      generalize hg : to_ + mx 0 (a13 - fr) = v
      have ht2 : TaskP a0 a1 cpu a3 a5 a6 a7 a8 a9 a10 a11 a12 v := by
        unfold TaskP at ht ⊢
        obtain ⟨p0, p2, p3, q | q | q⟩ := ht
        · exact absurd q.1 (by omega)
        · exact absurd q.1 (by omega)
        · exact ⟨p0, h2, p3, .inr (.inr ⟨q.1, q.2.1, q.2.2.1, q.2.2.2.1, q.2.2.2.2.1, q.2.2.2.2.2.1, q.2.2.2.2.2.2.1, q.2.2.2.2.2.2.2.1, q.2.2.2.2.2.2.2.2.1, by omega⟩)⟩
      simp only [impl_TaskOk.f, Option.bind_some, decide_eq_true_eq]
      rw [wr (a13 - fr) (by omega) (by omega), wr (v - to_) (by omega) (by omega)]
      refine evTrue ?_
      by_cases g : a13 - fr < 0
      · have e0 : mx 0 (a13 - fr) = 0 := by rw [mxb, if_neg (by omega)]
        refine evPos g (evPos ht2 (evPos trivial (evPos (by omega) (evPos trivial (evEq _ (fun _ => rfl) (by simp))))))
      · have e0 : mx 0 (a13 - fr) = a13 - fr := by rw [mxb]; split <;> omega
        refine evNeg g (evPos ht2 (evPos trivial (evPos (by omega) (evPos trivial (evEq _ (fun _ => rfl) (by simp))))))
    · refine Ev.bind hv (Ev.bind hv ?_)
      refine Ev.step (fun k => by simp only [laws_FnMoved.j0]; rfl) ?_
      exact evNeg (by simp) (evPos (by simp) (Ev.now _))

end Go.Proofs.Ytnokdjkkgcpbdab.Pure
