/- The pure statement of FnNewTasks, over numbers and lists: a drawn new task is right, ready, and not idle, or it is none. Conditions: those of the statement (the drawn bytes lie in memory). -/
import Derived.Test.YtphkgmdbdnjmbaaPrintLawsFnNewTasks
set_option linter.unusedVariables false
set_option linter.unusedSimpArgs false
namespace Go.Proofs.Ytphkgmdbdnjmbaa.Pure
open Go.RowKit Go.Proofs.Ytphkgmdbdnjmbaa.Print Go.Proofs.YtphkgmdbdnjmbaaW.PrintWords Go.Proofs.YtphkgmdbdnjmbaaW.PrintLast Go.Proofs.YtphkgmdbdnjmbaaW.PrintMore Go.Proofs.Ytphkgmdbdnjmbaa.Base

/-! A draw answers, and with what. -/
def En {α : Type} (f : Nat → Option α) (Q : α → Prop) : Prop := ∃ r, Ev f r ∧ Q r
theorem En.bind {α β : Type} {f : Nat → Option α} {P : α → Prop} {g : α → Nat → Option β} {Q : β → Prop} (h : En f P) (hg : ∀ r, P r → En (fun k => g r k) Q) : En (fun k => (f k).bind (fun r => g r k)) Q := by
  obtain ⟨r, e, p⟩ := h
  obtain ⟨s, e2, q⟩ := hg r p
  exact ⟨s, Ev.bind e e2, q⟩
theorem En.now {α : Type} {r : α} {Q : α → Prop} (h : Q r) : En (fun _ => some r) Q := ⟨r, Ev.now r, h⟩
theorem En.of {α : Type} {o : Option α} {P : α → Prop} (h : ∃ r, o = some r ∧ P r) : En (fun _ => o) P := by
  obtain ⟨r, e, p⟩ := h
  exact ⟨r, ⟨0, fun _ _ => e⟩, p⟩
theorem and255 (x : Int) : 0 ≤ Go.bits .and .i64 x 255 ∧ Go.bits .and .i64 x 255 ≤ 255 := by
  have e : Go.bits .and .i64 x 255 = IntKind.i64.wrap (((BitVec.ofInt 64 x) &&& (BitVec.ofInt 64 255)).toNat : Nat) := rfl
  have h : ((BitVec.ofInt 64 x) &&& (BitVec.ofInt 64 255)).toNat ≤ 255 := by rw [BitVec.toNat_and]; exact Nat.and_le_right
  rw [e, IntKind.wrap_i64]
  omega
theorem byte_some (l : List Int) (hl : l.length ≤ maxLen) (i h : Int) (h0 : 0 ≤ i) : ∃ b i' h', spec_l1Byte.f l i h = some (b, i', h') ∧ 0 ≤ b ∧ b ≤ 255 ∧ 0 ≤ i' := by
  unfold maxLen at hl
  unfold spec_l1Byte.f
  by_cases e : i < (l.length : Int)
  · rw [if_pos e, if_pos h0, wr (i + 1) (by omega) (by omega)]
    exact ⟨_, _, _, rfl, (and255 _).1, (and255 _).2, by omega⟩
  · rw [if_neg e]
    exact ⟨_, _, _, rfl, (and255 _).1, (and255 _).2, by omega⟩
theorem below_some (l : List Int) (hl : l.length ≤ maxLen) (i h n : Int) (h0 : 0 ≤ i) : ∃ r i' h', spec_l1Below.f l i h n = some (r, i', h') ∧ 0 ≤ i' ∧ 0 ≤ r ∧ (0 < n → r < n) ∧ (n ≤ 0 → r = 0) := by
  unfold spec_l1Below.f
  by_cases e : n ≤ 0
  · rw [if_pos e]
    exact ⟨_, _, _, rfl, h0, by omega, by omega, by omega⟩
  · rw [if_neg e]
    obtain ⟨b, i1, h1, e1, b0, b1, p1⟩ := byte_some l hl i h h0
    by_cases e2 : n ≤ 256
    · rw [if_pos e2, e1]
      simp only [Option.bind_some]
      rw [if_neg (by omega)]
      have := Int.tmod_nonneg n b0
      have := Int.tmod_lt_of_pos b (show 0 < n by omega)
      exact ⟨_, _, _, rfl, p1, by omega, by omega, by omega⟩
    · rw [if_neg e2, e1]
      simp only [Option.bind_some]
      obtain ⟨c, i2, h2, e3, c0, c1, p2⟩ := byte_some l hl i1 h1 p1
      rw [e3]
      simp only [Option.bind_some]
      obtain ⟨d, i3, h3, e4, d0, d1, p3⟩ := byte_some l hl i2 h2 p2
      rw [e4]
      simp only [Option.bind_some]
      obtain ⟨f, i4, h4, e5, f0, f1, p4⟩ := byte_some l hl i3 h3 p3
      rw [e5]
      simp only [Option.bind_some]
      rw [if_neg (by omega), wr (b * 16777216) (by omega) (by omega), wr (c * 65536) (by omega) (by omega), wr (d * 256) (by omega) (by omega), wr (b * 16777216 + c * 65536) (by omega) (by omega), wr (b * 16777216 + c * 65536 + d * 256) (by omega) (by omega), wr (b * 16777216 + c * 65536 + d * 256 + f) (by omega) (by omega)]
      have := Int.tmod_nonneg n (show 0 ≤ b * 16777216 + c * 65536 + d * 256 + f by omega)
      have := Int.tmod_lt_of_pos (b * 16777216 + c * 65536 + d * 256 + f) (show 0 < n by omega)
      exact ⟨_, _, _, rfl, p4, by omega, by omega, by omega⟩
theorem below_en (l : List Int) (hl : l.length ≤ maxLen) (i h n : Int) (h0 : 0 ≤ i) : En (fun _ => spec_l1Below.f l i h n) (fun r => 0 ≤ r.2.1) := by
  obtain ⟨r, i', h', e, p, _⟩ := below_some l hl i h n h0
  exact En.of ⟨_, e, p⟩
/-! The cursor over the drawn bytes: whatever it holds, a draw answers. -/
theorem new_loop (l : List Int) (hl : l.length ≤ maxLen) (d : Nat) : ∀ (k : Nat) (h i : Int), 0 ≤ i → (l.length : Int) - i ≤ d → d < k → ∃ h', spec_l1New.l0 k l h i = some (l, 0, h') := by
  unfold maxLen at hl
  induction d with
  | zero =>
    intro k h i h0 hd hk
    obtain ⟨k, rfl⟩ : ∃ m, k = m + 1 := ⟨k - 1, by omega⟩
    exact ⟨h, by simp only [spec_l1New.l0]; rw [if_neg (by omega)]⟩
  | succ d ih =>
    intro k h i h0 hd hk
    obtain ⟨k, rfl⟩ : ∃ m, k = m + 1 := ⟨k - 1, by omega⟩
    simp only [spec_l1New.l0]
    by_cases e : i < (l.length : Int)
    · rw [if_pos e]
      by_cases e2 : i < 4000
      · rw [if_pos e2, if_pos h0, wr (i + 1) (by omega) (by omega)]
        exact ih k _ _ (by omega) (by omega) (by omega)
      · rw [if_neg e2]
        exact ⟨_, rfl⟩
    · rw [if_neg e]
      exact ⟨_, rfl⟩
theorem new_ev (l : List Int) (hl : l.length ≤ maxLen) : ∃ h, Ev (fun k => spec_l1New.f k l) (l, 0, h) := by
  obtain ⟨h, e⟩ := new_loop l hl l.length (l.length + 1) (wrap64 (18511 + (l.length : Int))) 0 (by omega) (by omega) (by omega)
  exact ⟨h, Ev.of (fun k => spec_l1New.mono l k) e⟩
theorem new_en (l : List Int) (hl : l.length ≤ maxLen) : En (fun k => spec_l1New.f k l) (fun r => r.1 = l ∧ 0 ≤ r.2.1) := by
  obtain ⟨h, e⟩ := new_ev l hl
  exact ⟨_, e, rfl, Int.le_refl _⟩
theorem pick_some (l : List Int) (hl : l.length ≤ maxLen) (i h : Int) (xs : List Int) (h0 : 0 ≤ i) (hx : 0 < xs.length) : ∃ r i' h', spec_l1PickInt.f l i h xs = some (r, i', h') ∧ 0 ≤ i' ∧ r ∈ xs := by
  unfold spec_l1PickInt.f
  obtain ⟨r, i1, h1, e, p1, r0, r1, _⟩ := below_some l hl i h (xs.length : Int) h0
  have r1 := r1 (by omega)
  rw [e]
  simp only [Option.bind_some]
  rw [if_pos r0, if_pos r1]
  refine ⟨_, _, _, rfl, p1, ?_⟩
  unfold rd
  rw [List.getD_eq_getElem?_getD, List.getElem?_eq_getElem (by omega), Option.getD_some]
  exact List.getElem_mem _
theorem pick_en (l : List Int) (hl : l.length ≤ maxLen) (i h : Int) (x : Int) (xs : List Int) (h0 : 0 ≤ i) : En (fun _ => spec_l1PickInt.f l i h (x :: xs)) (fun r => 0 ≤ r.2.1) := by
  obtain ⟨r, i', h', e, p, _⟩ := pick_some l hl i h (x :: xs) h0 (by simp)
  exact En.of ⟨_, e, p⟩
theorem drawNewDue_en (l : List Int) (hl : l.length ≤ maxLen) : En (fun k => spec_DrawNewDue.f k l) (fun _ => True) := by
  unfold spec_DrawNewDue.f
  refine En.bind (new_en l hl) (fun r hr => ?_)
  rw [hr.1]
  refine En.bind (pick_en l hl _ _ _ _ hr.2) (fun a ha => ?_)
  refine En.bind (below_en l hl _ _ _ ha) (fun b hb => ?_)
  refine En.bind (pick_en l hl _ _ _ _ hb) (fun c hc => ?_)
  refine En.bind (pick_en l hl _ _ _ _ hc) (fun d hd => ?_)
  exact En.bind (pick_en l hl _ _ _ _ hd) (fun e he => En.now trivial)
theorem En.ite {α : Type} {c : Prop} [Decidable c] {f g : Nat → Option α} {Q : α → Prop} (h : c → En f Q) (h' : ¬ c → En g Q) : En (fun k => if c then f k else g k) Q := by
  by_cases hc : c
  · obtain ⟨r, e, q⟩ := h hc
    exact ⟨r, evPos hc e, q⟩
  · obtain ⟨r, e, q⟩ := h' hc
    exact ⟨r, evNeg hc e, q⟩
theorem once_some (l : List Int) (hl : l.length ≤ maxLen) (i h n : Int) (h0 : 0 ≤ i) : ∃ b i' h', spec_l1Once.f l i h n = some (b, i', h') ∧ 0 ≤ i' := by
  obtain ⟨r, i', h', e, p, _⟩ := below_some l hl i h n h0
  exact ⟨r == 0, i', h', by unfold spec_l1Once.f; rw [e]; rfl, p⟩
theorem once_en (l : List Int) (hl : l.length ≤ maxLen) (i h n : Int) (h0 : 0 ≤ i) : En (fun _ => spec_l1Once.f l i h n) (fun r => 0 ≤ r.2.1) := by
  obtain ⟨r, i', h', e, p⟩ := once_some l hl i h n h0
  exact En.of ⟨_, e, p⟩
theorem drawNice0_en (l : List Int) (hl : l.length ≤ maxLen) (i h : Int) (h0 : 0 ≤ i) : En (fun _ => spec_l2DrawNice.f l i h) (fun r => 0 ≤ r.2.1) := by
  unfold spec_l2DrawNice.f
  refine En.bind (once_en l hl _ _ _ h0) (fun r hr => ?_)
  refine En.ite (fun _ => ?_) (fun _ => ?_)
  · exact En.bind (pick_en l hl _ _ _ _ hr) (fun s hs => En.now hs)
  · exact En.bind (below_en l hl _ _ _ hr) (fun s hs => En.now hs)
theorem drawNewFair_en (l : List Int) (hl : l.length ≤ maxLen) : En (fun k => spec_DrawNewFair.f k l) (fun _ => True) := by
  unfold spec_DrawNewFair.f
  refine En.bind (new_en l hl) (fun r hr => ?_)
  rw [hr.1]
  refine En.bind (pick_en l hl _ _ _ _ hr.2) (fun a ha => ?_)
  refine En.bind (below_en l hl _ _ _ ha) (fun b hb => ?_)
  refine En.bind (drawNice0_en l hl _ _ hb) (fun c hc => ?_)
  exact En.bind (pick_en l hl _ _ _ _ hc) (fun e he => En.now trivial)
theorem drawNewFixed_en (l : List Int) (hl : l.length ≤ maxLen) : En (fun k => spec_DrawNewFixed.f k l) (fun _ => True) := by
  unfold spec_DrawNewFixed.f
  refine En.bind (new_en l hl) (fun r hr => ?_)
  rw [hr.1]
  refine En.bind (pick_en l hl _ _ _ _ hr.2) (fun a ha => ?_)
  refine En.bind (below_en l hl _ _ _ ha) (fun b hb => ?_)
  refine En.bind (below_en l hl _ _ _ hb) (fun c hc => ?_)
  refine En.bind (below_en l hl _ _ _ hc) (fun d hd => ?_)
  exact En.bind (pick_en l hl _ _ _ _ hd) (fun e he => En.now trivial)
theorem in_eq (a b c : Int) : impl_in.f a b c = some (decide (b ≤ a ∧ a ≤ c)) := by
  unfold impl_in.f
  by_cases h : a ≥ b
  · rw [if_pos h]; simp [show b ≤ a from h]
  · rw [if_neg h]; simp; omega
theorem made_eq (a0 a1 a2 a3 : Int) (a4 : Bool) (a5 a6 a7 a8 a9 a10 a11 a12 a13 : Int) : impl_made.f a0 a1 a2 a3 a4 a5 a6 a7 a8 a9 a10 a11 a12 a13 = spec_l3New.f a0 a1 a2 a3 a4 a5 a6 a7 a8 a9 a10 a11 a12 a13 := by
  unfold impl_made.f spec_l3New.f impl_TaskOk.f spec_TaskOk.f
  rfl
theorem share_eq (q p : Int) : impl_ShareOk.f q p = some (decide (ShareP q p)) := by
  unfold impl_ShareOk.f ShareP
  simp only [in_eq, Option.bind_some, decide_eq_true_eq]
  by_cases h : 1 ≤ p ∧ p ≤ 40
  · simp only [h, and_self, if_true, true_and]
  · simp only [h, if_false, false_and, decide_false]
theorem sin_eq (a b c : Int) : spec_l1In.f a b c = some (decide (b ≤ a ∧ a ≤ c)) := by
  unfold spec_l1In.f
  by_cases h : a ≥ b
  · rw [if_pos h]; simp [show b ≤ a from h]
  · rw [if_neg h]; simp; omega
theorem sshare_eq (q p : Int) : spec_ShareOk.f q p = some (decide (ShareP q p)) := by
  unfold spec_ShareOk.f ShareP
  simp only [sin_eq, Option.bind_some, decide_eq_true_eq]
  by_cases h : 1 ≤ p ∧ p ≤ 40
  · simp only [h, and_self, if_true, true_and]
  · simp only [h, if_false, false_and, decide_false]
theorem newDue_eq (no cpu q p now : Int) : impl_NewDue.f no cpu q p now = spec_NewDue.f no cpu q p now := by
  unfold impl_NewDue.f spec_NewDue.f
  simp only [impl_isTime.f, in_eq, sin_eq, share_eq, sshare_eq, made_eq, Option.bind_some]
theorem made_val (a0 a1 a2 a3 : Int) (a4 : Bool) (a5 a6 a7 a8 a9 a10 a11 a12 a13 : Int) : impl_made.f a0 a1 a2 a3 a4 a5 a6 a7 a8 a9 a10 a11 a12 a13 = some (if TaskP a0 a1 a2 a3 a5 a6 a7 a8 a9 a10 a11 a12 a13 then (a0, a1, a2, a3, a4, a5, a6, a7, a8, a9, a10, a11, a12, a13, true) else (0, 0, 0, 0, false, 0, 0, 0, 0, 0, 0, 0, 0, 0, false)) := by
  unfold impl_made.f
  simp only [impl_TaskOk.f, Option.bind_some, decide_eq_true_eq]
  by_cases h : TaskP a0 a1 a2 a3 a5 a6 a7 a8 a9 a10 a11 a12 a13
  · rw [if_pos h, if_pos h]
  · rw [if_neg h, if_neg h]
theorem newDue_val (no cpu q p now : Int) : (((0 ≤ now ∧ now ≤ 100000) ∧ ShareP q p ∧ TaskP no 1 cpu 1 q p q (wrap64 (now + p)) 0 0 0 0 0) ∧ impl_NewDue.f no cpu q p now = some (no, 1, cpu, 1, false, q, p, q, wrap64 (now + p), 0, 0, 0, 0, 0, true)) ∨ impl_NewDue.f no cpu q p now = some (0, 0, 0, 0, false, 0, 0, 0, 0, 0, 0, 0, 0, 0, false) := by
  unfold impl_NewDue.f
  simp only [impl_isTime.f, in_eq, share_eq, made_val, Option.bind_some, decide_eq_true_eq]
  by_cases h1 : 0 ≤ now ∧ now ≤ 100000
  · by_cases h2 : ShareP q p
    · by_cases h3 : TaskP no 1 cpu 1 q p q (wrap64 (now + p)) 0 0 0 0 0
      · rw [if_pos h1, if_pos h2]
        simp only [if_pos h3]
        exact .inl ⟨⟨h1, h2, h3⟩, by trivial⟩
      · rw [if_pos h1, if_pos h2]
        simp only [if_neg h3]
        exact .inr (by trivial)
    · rw [if_pos h1, if_neg h2]
      exact .inr (by trivial)
  · rw [if_neg h1]
    exact .inr (by trivial)
theorem newFair_eq (no cpu nice v : Int) : spec_NewFair.f no cpu nice v = impl_NewFair.f no cpu nice v := by
  unfold impl_NewFair.f spec_NewFair.f
  simp only [made_eq]
theorem newFair_val (no cpu nice v : Int) : (TaskP no 3 cpu 1 0 0 0 0 0 0 0 nice v ∧ impl_NewFair.f no cpu nice v = some (no, 3, cpu, 1, false, 0, 0, 0, 0, 0, 0, 0, nice, v, true)) ∨ impl_NewFair.f no cpu nice v = some (0, 0, 0, 0, false, 0, 0, 0, 0, 0, 0, 0, 0, 0, false) := by
  unfold impl_NewFair.f
  simp only [made_val, Option.bind_some]
  by_cases h : TaskP no 3 cpu 1 0 0 0 0 0 0 0 nice v
  · simp only [if_pos h]
    exact .inl ⟨h, by trivial⟩
  · simp only [if_neg h]
    exact .inr (by trivial)
theorem newFixed_eq (no cpu prio round seq : Int) : spec_NewFixed.f no cpu prio round seq = impl_NewFixed.f no cpu prio round seq := by
  unfold impl_NewFixed.f spec_NewFixed.f
  simp only [made_eq]
theorem newFixed_val (no cpu prio round seq : Int) : (TaskP no 2 cpu 1 0 0 round 0 prio round seq 0 0 ∧ impl_NewFixed.f no cpu prio round seq = some (no, 2, cpu, 1, false, 0, 0, round, 0, prio, round, seq, 0, 0, true)) ∨ impl_NewFixed.f no cpu prio round seq = some (0, 0, 0, 0, false, 0, 0, 0, 0, 0, 0, 0, 0, 0, false) := by
  unfold impl_NewFixed.f
  simp only [made_val, Option.bind_some]
  by_cases h : TaskP no 2 cpu 1 0 0 round 0 prio round seq 0 0
  · simp only [if_pos h]
    exact .inl ⟨h, by trivial⟩
  · simp only [if_neg h]
    exact .inr (by trivial)
theorem newTasks_j1 (prio round seq nice v : Int) (two three : Bool) (b0 b1 b2 b3 : Int) (b4 : Bool) (b5 b6 b7 b8 b9 b10 b11 b12 b13 : Int) (c0 c1 c2 c3 : Int) (c4 : Bool) (c5 c6 c7 c8 c9 c10 c11 c12 c13 : Int) (h2 : (two = true ∧ TaskP b0 b1 b2 b3 b5 b6 b7 b8 b9 b10 b11 b12 b13 ∧ b9 = prio ∧ b7 = round ∧ b11 = seq) ∨ (two = false ∧ (b0, b1, b2, b3, b4, b5, b6, b7, b8, b9, b10, b11, b12, b13) = (0, 0, 0, 0, false, 0, 0, 0, 0, 0, 0, 0, 0, 0)))
    (h3 : (three = true ∧ TaskP c0 c1 c2 c3 c5 c6 c7 c8 c9 c10 c11 c12 c13 ∧ c12 = nice ∧ c13 = v) ∨ (three = false ∧ (c0, c1, c2, c3, c4, c5, c6, c7, c8, c9, c10, c11, c12, c13) = (0, 0, 0, 0, false, 0, 0, 0, 0, 0, 0, 0, 0, 0))) : Ev (fun k => laws_FnNewTasks.j1 k prio round seq two nice v three false b0 b1 b2 b3 b4 b5 b6 b7 b8 b9 b10 b11 b12 b13 c0 c1 c2 c3 c4 c5 c6 c7 c8 c9 c10 c11 c12 c13) true := by
  refine Ev.step (fun k => by simp only [laws_FnNewTasks.j1, impl_TaskOk.f, Option.bind_some, decide_eq_true_eq]; rfl) ?_
  refine evNeg (by decide) ?_
  rcases h2 with ⟨rfl, p1, p2, p3, p4⟩ | ⟨rfl, p⟩
  · refine evPos rfl (evPos p1 (evPos p2 (evPos p3 (evPos p4 ?_))))
    rcases h3 with ⟨rfl, q1, q2, q3⟩ | ⟨rfl, q⟩
    · exact evPos rfl (evPos q1 (evPos q2 (evPos q3 (Ev.now _))))
    · simp only [Prod.mk.injEq] at q
      obtain ⟨rfl, rfl, rfl, rfl, rfl, rfl, rfl, rfl, rfl, rfl, rfl, rfl, rfl, rfl⟩ := q
      exact evNeg (by decide) (evEq _ (fun _ => rfl) (by rfl))
  · simp only [Prod.mk.injEq] at p
    obtain ⟨rfl, rfl, rfl, rfl, rfl, rfl, rfl, rfl, rfl, rfl, rfl, rfl, rfl, rfl⟩ := p
    refine evNeg (by decide) (evNeg (by decide) ?_)
    rcases h3 with ⟨rfl, q1, q2, q3⟩ | ⟨rfl, q⟩
    · exact evPos rfl (evPos q1 (evPos q2 (evPos q3 (Ev.now _))))
    · simp only [Prod.mk.injEq] at q
      obtain ⟨rfl, rfl, rfl, rfl, rfl, rfl, rfl, rfl, rfl, rfl, rfl, rfl, rfl, rfl⟩ := q
      exact evNeg (by decide) (evEq _ (fun _ => rfl) (by rfl))
theorem newTasks_j0 (no q p now prio round seq nice v : Int) (one two three : Bool) (a0 a1 a2 a3 : Int) (a4 : Bool) (a5 a6 a7 a8 a9 a10 a11 a12 a13 : Int) (b0 b1 b2 b3 : Int) (b4 : Bool) (b5 b6 b7 b8 b9 b10 b11 b12 b13 : Int) (c0 c1 c2 c3 : Int) (c4 : Bool) (c5 c6 c7 c8 c9 c10 c11 c12 c13 : Int) (h1 : (one = true ∧ TaskP a0 a1 a2 a3 a5 a6 a7 a8 a9 a10 a11 a12 a13 ∧ a3 = 1 ∧ a4 = false ∧ a7 = q ∧ a8 = wrap64 (now + p) ∧ a0 = no) ∨ (one = false ∧ (a0, a1, a2, a3, a4, a5, a6, a7, a8, a9, a10, a11, a12, a13) = (0, 0, 0, 0, false, 0, 0, 0, 0, 0, 0, 0, 0, 0)))
    (h2 : (two = true ∧ TaskP b0 b1 b2 b3 b5 b6 b7 b8 b9 b10 b11 b12 b13 ∧ b9 = prio ∧ b7 = round ∧ b11 = seq) ∨ (two = false ∧ (b0, b1, b2, b3, b4, b5, b6, b7, b8, b9, b10, b11, b12, b13) = (0, 0, 0, 0, false, 0, 0, 0, 0, 0, 0, 0, 0, 0)))
    (h3 : (three = true ∧ TaskP c0 c1 c2 c3 c5 c6 c7 c8 c9 c10 c11 c12 c13 ∧ c12 = nice ∧ c13 = v) ∨ (three = false ∧ (c0, c1, c2, c3, c4, c5, c6, c7, c8, c9, c10, c11, c12, c13) = (0, 0, 0, 0, false, 0, 0, 0, 0, 0, 0, 0, 0, 0))) : Ev (fun k => laws_FnNewTasks.j0 k no q p now one prio round seq two nice v three false a0 a1 a2 a3 a4 a5 a6 a7 a8 a9 a10 a11 a12 a13 b0 b1 b2 b3 b4 b5 b6 b7 b8 b9 b10 b11 b12 b13 c0 c1 c2 c3 c4 c5 c6 c7 c8 c9 c10 c11 c12 c13) true := by
  have h := newTasks_j1 prio round seq nice v two three b0 b1 b2 b3 b4 b5 b6 b7 b8 b9 b10 b11 b12 b13 c0 c1 c2 c3 c4 c5 c6 c7 c8 c9 c10 c11 c12 c13 h2 h3
  refine Ev.step (fun k => by simp only [laws_FnNewTasks.j0, impl_TaskOk.f, Option.bind_some, decide_eq_true_eq]; rfl) ?_
  refine evNeg (by decide) ?_
  rcases h1 with ⟨rfl, p1, p2, p3, p4, p5, p6⟩ | ⟨rfl, p⟩
  · exact evPos rfl (evPos p1 (evPos p2 (evNeg (by rw [p3]; decide) (evPos p4 (evPos p5 (evPos p6 h))))))
  · simp only [Prod.mk.injEq] at p
    obtain ⟨rfl, rfl, rfl, rfl, rfl, rfl, rfl, rfl, rfl, rfl, rfl, rfl, rfl, rfl⟩ := p
    exact evNeg (by decide) h
theorem FnNewTasks : laws_FnNewTasks.Pure := by
  intro l hl _ _
  refine Ev.rounds (r := true) ?_
  unfold laws_FnNewTasks.f laws_big.f
  simp only [Option.bind_some, decide_eq_true_eq]
  by_cases hb : (l.length : Int) > 1048576
  · exact evPos hb (Ev.now _)
  · refine evNeg hb ?_
    obtain ⟨⟨no, cpu, q, p, now⟩, e1, _⟩ := drawNewDue_en l hl
    obtain ⟨⟨no2, cpu2, prio, round, seq⟩, e2, _⟩ := drawNewFixed_en l hl
    obtain ⟨⟨no3, cpu3, nice, v⟩, e3, _⟩ := drawNewFair_en l hl
    refine Ev.bind e1 ?_
    simp only [← newDue_eq, newFixed_eq, newFair_eq]
    obtain ⟨ra, ha, h1⟩ : ∃ r, impl_NewDue.f no cpu q p now = some r ∧ ((r.2.2.2.2.2.2.2.2.2.2.2.2.2.2 = true ∧ TaskP r.1 r.2.1 r.2.2.1 r.2.2.2.1 r.2.2.2.2.2.1 r.2.2.2.2.2.2.1 r.2.2.2.2.2.2.2.1 r.2.2.2.2.2.2.2.2.1 r.2.2.2.2.2.2.2.2.2.1 r.2.2.2.2.2.2.2.2.2.2.1 r.2.2.2.2.2.2.2.2.2.2.2.1 r.2.2.2.2.2.2.2.2.2.2.2.2.1 r.2.2.2.2.2.2.2.2.2.2.2.2.2.1 ∧ r.2.2.2.1 = 1 ∧ r.2.2.2.2.1 = false ∧ r.2.2.2.2.2.2.2.1 = q ∧ r.2.2.2.2.2.2.2.2.1 = wrap64 (now + p) ∧ r.1 = no) ∨ r = (0, 0, 0, 0, false, 0, 0, 0, 0, 0, 0, 0, 0, 0, false)) := by
      rcases newDue_val no cpu q p now with ⟨⟨_, _, h⟩, e⟩ | e
      · exact ⟨_, e, .inl ⟨rfl, h, rfl, rfl, rfl, rfl, rfl⟩⟩
      · exact ⟨_, e, .inr rfl⟩
    obtain ⟨rb, hb2, h2⟩ : ∃ r, impl_NewFixed.f no2 cpu2 prio round seq = some r ∧ ((r.2.2.2.2.2.2.2.2.2.2.2.2.2.2 = true ∧ TaskP r.1 r.2.1 r.2.2.1 r.2.2.2.1 r.2.2.2.2.2.1 r.2.2.2.2.2.2.1 r.2.2.2.2.2.2.2.1 r.2.2.2.2.2.2.2.2.1 r.2.2.2.2.2.2.2.2.2.1 r.2.2.2.2.2.2.2.2.2.2.1 r.2.2.2.2.2.2.2.2.2.2.2.1 r.2.2.2.2.2.2.2.2.2.2.2.2.1 r.2.2.2.2.2.2.2.2.2.2.2.2.2.1 ∧ r.2.2.2.2.2.2.2.2.2.1 = prio ∧ r.2.2.2.2.2.2.2.1 = round ∧ r.2.2.2.2.2.2.2.2.2.2.2.1 = seq) ∨ r = (0, 0, 0, 0, false, 0, 0, 0, 0, 0, 0, 0, 0, 0, false)) := by
      rcases newFixed_val no2 cpu2 prio round seq with ⟨h, e⟩ | e
      · exact ⟨_, e, .inl ⟨rfl, h, rfl, rfl, rfl⟩⟩
      · exact ⟨_, e, .inr rfl⟩
    obtain ⟨rc, hc, h3⟩ : ∃ r, impl_NewFair.f no3 cpu3 nice v = some r ∧ ((r.2.2.2.2.2.2.2.2.2.2.2.2.2.2 = true ∧ TaskP r.1 r.2.1 r.2.2.1 r.2.2.2.1 r.2.2.2.2.2.1 r.2.2.2.2.2.2.1 r.2.2.2.2.2.2.2.1 r.2.2.2.2.2.2.2.2.1 r.2.2.2.2.2.2.2.2.2.1 r.2.2.2.2.2.2.2.2.2.2.1 r.2.2.2.2.2.2.2.2.2.2.2.1 r.2.2.2.2.2.2.2.2.2.2.2.2.1 r.2.2.2.2.2.2.2.2.2.2.2.2.2.1 ∧ r.2.2.2.2.2.2.2.2.2.2.2.2.1 = nice ∧ r.2.2.2.2.2.2.2.2.2.2.2.2.2.1 = v) ∨ r = (0, 0, 0, 0, false, 0, 0, 0, 0, 0, 0, 0, 0, 0, false)) := by
      rcases newFair_val no3 cpu3 nice v with ⟨h, e⟩ | e
      · exact ⟨_, e, .inl ⟨rfl, h, rfl, rfl⟩⟩
      · exact ⟨_, e, .inr rfl⟩
    rw [ha]
    simp only [Option.bind_some]
    refine Ev.bind e2 ?_
    simp only []
    rw [hb2]
    simp only [Option.bind_some]
    refine Ev.bind e3 ?_
    simp only []
    rw [hc]
    simp only [Option.bind_some]
    refine evNeg (by simp) (evNeg (by simp) ?_)
    rw [show (rc.2.2.2.2.2.2.2.2.2.2.2.2.2.2 != rc.2.2.2.2.2.2.2.2.2.2.2.2.2.2) = false by simp]
    refine newTasks_j0 _ _ _ _ _ _ _ _ _ _ _ _ _ _ _ _ _ _ _ _ _ _ _ _ _ _ _ _ _ _ _ _ _ _ _ _ _ _ _ _ _ _ _ _ _ _ _ _ _ _ _ _ _ _ ?_ ?_ ?_
    · rcases h1 with h | rfl
      · exact .inl h
      · exact .inr ⟨rfl, rfl⟩
    · rcases h2 with h | rfl
      · exact .inl h
      · exact .inr ⟨rfl, rfl⟩
    · rcases h3 with h | rfl
      · exact .inl h
      · exact .inr ⟨rfl, rfl⟩

end Go.Proofs.Ytphkgmdbdnjmbaa.Pure
