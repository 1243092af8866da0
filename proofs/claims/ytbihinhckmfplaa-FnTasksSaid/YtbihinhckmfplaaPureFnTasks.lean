/- The pure statement of FnTasks, over numbers and lists: a task that is put among drawn ones is found, and all others are as they were. Conditions: those of the statement (the drawn bytes lie in memory). -/
import Derived.Test.YtbihinhckmfplaaPrintLawsFnTasks
set_option linter.unusedVariables false
set_option linter.unusedSimpArgs false
namespace Go.Proofs.Ytbihinhckmfplaa.Pure
open Go.RowKit Go.Proofs.Ytbihinhckmfplaa.Print Go.Proofs.YtbihinhckmfplaaW.PrintWords Go.Proofs.YtbihinhckmfplaaW.PrintLast Go.Proofs.YtbihinhckmfplaaW.PrintMore Go.Proofs.Ytbihinhckmfplaa.Base

/-! A draw answers, and with what. -/
def En {α : Type} (f : Nat → Option α) (Q : α → Prop) : Prop := ∃ r, Ev f r ∧ Q r
theorem En.bind {α β : Type} {f : Nat → Option α} {P : α → Prop} {g : α → Nat → Option β} {Q : β → Prop} (h : En f P) (hg : ∀ r, P r → En (fun k => g r k) Q) : En (fun k => (f k).bind (fun r => g r k)) Q := by
  obtain ⟨r, e, p⟩ := h
  obtain ⟨s, e2, q⟩ := hg r p
  exact ⟨s, Ev.bind e e2, q⟩
theorem En.now {α : Type} {r : α} {Q : α → Prop} (h : Q r) : En (fun _ => some r) Q := ⟨r, Ev.now r, h⟩
theorem En.ite {α : Type} {c : Prop} [Decidable c] {f g : Nat → Option α} {Q : α → Prop} (h : c → En f Q) (h' : ¬ c → En g Q) : En (fun k => if c then f k else g k) Q := by
  by_cases hc : c
  · obtain ⟨r, e, q⟩ := h hc
    exact ⟨r, evPos hc e, q⟩
  · obtain ⟨r, e, q⟩ := h' hc
    exact ⟨r, evNeg hc e, q⟩
theorem En.of {α : Type} {o : Option α} {P : α → Prop} (h : ∃ r, o = some r ∧ P r) : En (fun _ => o) P := by
  obtain ⟨r, e, p⟩ := h
  exact ⟨r, ⟨0, fun _ _ => e⟩, p⟩
theorem and255 (x : Int) : 0 ≤ Go.bits .and .i64 x 255 ∧ Go.bits .and .i64 x 255 ≤ 255 := by
  have e : Go.bits .and .i64 x 255 = IntKind.i64.wrap (((BitVec.ofInt 64 x) &&& (BitVec.ofInt 64 255)).toNat : Nat) := rfl
  have h : ((BitVec.ofInt 64 x) &&& (BitVec.ofInt 64 255)).toNat ≤ 255 := by rw [BitVec.toNat_and]; exact Nat.and_le_right
  rw [e, IntKind.wrap_i64]
  omega
theorem byte_some (l : List Int) (hl : l.length ≤ maxLen) (i h : Int) (h0 : 0 ≤ i) : ∃ b i' h', spec_l1Byte.f l i h = some (b, i', h') ∧ 0 ≤ b ∧ b ≤ 255 ∧ 0 ≤ i' := by
  unfold maxLen at hl
  unfold spec_l1Byte.f
  by_cases e : i < (l.length : Int)
  · rw [if_pos e, if_pos h0, wr (i + 1) (by omega) (by omega)]
    exact ⟨_, _, _, rfl, (and255 _).1, (and255 _).2, by omega⟩
  · rw [if_neg e]
    exact ⟨_, _, _, rfl, (and255 _).1, (and255 _).2, by omega⟩
theorem below_some (l : List Int) (hl : l.length ≤ maxLen) (i h n : Int) (h0 : 0 ≤ i) : ∃ r i' h', spec_l1Below.f l i h n = some (r, i', h') ∧ 0 ≤ i' ∧ 0 ≤ r ∧ (0 < n → r < n) ∧ (n ≤ 0 → r = 0) := by
  unfold spec_l1Below.f
  by_cases e : n ≤ 0
  · rw [if_pos e]
    exact ⟨_, _, _, rfl, h0, by omega, by omega, by omega⟩
  · rw [if_neg e]
    obtain ⟨b, i1, h1, e1, b0, b1, p1⟩ := byte_some l hl i h h0
    by_cases e2 : n ≤ 256
    · rw [if_pos e2, e1]
      simp only [Option.bind_some]
      rw [if_neg (by omega)]
      have := Int.tmod_nonneg n b0
      have := Int.tmod_lt_of_pos b (show 0 < n by omega)
      exact ⟨_, _, _, rfl, p1, by omega, by omega, by omega⟩
    · rw [if_neg e2, e1]
      simp only [Option.bind_some]
      obtain ⟨c, i2, h2, e3, c0, c1, p2⟩ := byte_some l hl i1 h1 p1
      rw [e3]
      simp only [Option.bind_some]
      obtain ⟨d, i3, h3, e4, d0, d1, p3⟩ := byte_some l hl i2 h2 p2
      rw [e4]
      simp only [Option.bind_some]
      obtain ⟨f, i4, h4, e5, f0, f1, p4⟩ := byte_some l hl i3 h3 p3
      rw [e5]
      simp only [Option.bind_some]
      rw [if_neg (by omega), wr (b * 16777216) (by omega) (by omega), wr (c * 65536) (by omega) (by omega), wr (d * 256) (by omega) (by omega), wr (b * 16777216 + c * 65536) (by omega) (by omega), wr (b * 16777216 + c * 65536 + d * 256) (by omega) (by omega), wr (b * 16777216 + c * 65536 + d * 256 + f) (by omega) (by omega)]
      have := Int.tmod_nonneg n (show 0 ≤ b * 16777216 + c * 65536 + d * 256 + f by omega)
      have := Int.tmod_lt_of_pos (b * 16777216 + c * 65536 + d * 256 + f) (show 0 < n by omega)
      exact ⟨_, _, _, rfl, p4, by omega, by omega, by omega⟩
theorem below_en (l : List Int) (hl : l.length ≤ maxLen) (i h n : Int) (h0 : 0 ≤ i) : En (fun _ => spec_l1Below.f l i h n) (fun r => 0 ≤ r.2.1) := by
  obtain ⟨r, i', h', e, p, _⟩ := below_some l hl i h n h0
  exact En.of ⟨_, e, p⟩
theorem En.step {α : Type} {f g : Nat → Option α} {Q : α → Prop} (h : ∀ k, f (k + 1) = g k) (e : En g Q) : En f Q := by
  obtain ⟨r, e, q⟩ := e
  exact ⟨r, Ev.step h e, q⟩
theorem draw3j_en (l : List Int) (i h : Int) (h0 : 0 ≤ i) (a0 a1 a2 a3 : Int) (a4 : Bool) (a5 a6 a7 a8 a9 a10 a11 a12 a13 : Int) : En (fun k => spec_l3Draw.j0 k l i h a0 a1 a2 a3 a4 a5 a6 a7 a8 a9 a10 a11 a12 a13) (fun r => 0 ≤ r.2.2.2.2.2.2.2.2.2.2.2.2.2.2.1) := by
  refine En.step (fun k => by simp only [spec_l3Draw.j0]; rfl) ?_
  exact En.now h0
theorem once_some (l : List Int) (hl : l.length ≤ maxLen) (i h n : Int) (h0 : 0 ≤ i) : ∃ b i' h', spec_l1Once.f l i h n = some (b, i', h') ∧ 0 ≤ i' := by
  obtain ⟨r, i', h', e, p, _⟩ := below_some l hl i h n h0
  exact ⟨r == 0, i', h', by unfold spec_l1Once.f; rw [e]; rfl, p⟩
theorem once_en (l : List Int) (hl : l.length ≤ maxLen) (i h n : Int) (h0 : 0 ≤ i) : En (fun _ => spec_l1Once.f l i h n) (fun r => 0 ≤ r.2.1) := by
  obtain ⟨r, i', h', e, p⟩ := once_some l hl i h n h0
  exact En.of ⟨_, e, p⟩
theorem drawRight0_en (l : List Int) (hl : l.length ≤ maxLen) (i h : Int) (h0 : 0 ≤ i) (a0 a1 a2 a3 : Int) (a4 : Bool) (a5 a6 a7 a8 a9 a10 a11 a12 a13 : Int) : En (fun k => spec_l3DrawRight.j0 k l i h a0 a1 a2 a3 a4 a5 a6 a7 a8 a9 a10 a11 a12 a13) (fun r => 0 ≤ r.2.2.2.2.2.2.2.2.2.2.2.2.2.2.1) := by
  refine En.step (fun k => by simp only [spec_l3DrawRight.j0]; rfl) ?_
  refine En.bind (once_en l hl _ _ _ h0) (fun r hr => ?_)
  refine En.ite (fun _ => ?_) (fun _ => ?_)
  all_goals
    refine En.bind (once_en l hl _ _ _ hr) (fun s hs => ?_)
    exact En.now hs
theorem sin_eq (a b c : Int) : spec_l1In.f a b c = some (decide (b ≤ a ∧ a ≤ c)) := by
  unfold spec_l1In.f
  by_cases h : a ≥ b
  · rw [if_pos h]; simp [show b ≤ a from h]
  · rw [if_neg h]; simp; omega
theorem snew_some (a0 a1 a2 a3 : Int) (a4 : Bool) (a5 a6 a7 a8 a9 a10 a11 a12 a13 : Int) : ∃ r, spec_l3New.f a0 a1 a2 a3 a4 a5 a6 a7 a8 a9 a10 a11 a12 a13 = some r := by
  unfold spec_l3New.f spec_TaskOk.f
  simp only [Option.bind_some]
  split <;> exact ⟨_, rfl⟩
theorem sshare_eq (q p : Int) : spec_ShareOk.f q p = some (decide (ShareP q p)) := by
  unfold spec_ShareOk.f ShareP
  simp only [sin_eq, Option.bind_some, decide_eq_true_eq]
  by_cases h : 1 ≤ p ∧ p ≤ 40
  · simp only [h, and_self, if_true, true_and]
  · simp only [h, if_false, false_and, decide_false]
theorem snewDue_some (no cpu q p now : Int) : ∃ r, spec_NewDue.f no cpu q p now = some r := by
  unfold spec_NewDue.f
  obtain ⟨r, hr⟩ := snew_some no 1 cpu 1 false q p q (wrap64 (now + p)) 0 0 0 0 0
  simp only [sin_eq, sshare_eq, hr, Option.bind_some]
  repeat' split
  all_goals exact ⟨_, rfl⟩
theorem snewFair_some (no cpu nice v : Int) : ∃ r, spec_NewFair.f no cpu nice v = some r := by
  unfold spec_NewFair.f
  obtain ⟨r, hr⟩ := snew_some no 3 cpu 1 false 0 0 0 0 0 0 0 nice v
  simp only [hr, Option.bind_some]
  exact ⟨_, rfl⟩
theorem snewFixed_some (no cpu prio round seq : Int) : ∃ r, spec_NewFixed.f no cpu prio round seq = some r := by
  unfold spec_NewFixed.f
  obtain ⟨r, hr⟩ := snew_some no 2 cpu 1 false 0 0 round 0 prio round seq 0 0
  simp only [hr, Option.bind_some]
  exact ⟨_, rfl⟩
theorem some_en {α : Type} {o : Option α} (h : ∃ r, o = some r) : En (fun _ => o) (fun _ => True) := by
  obtain ⟨r, e⟩ := h
  exact En.of ⟨r, e, trivial⟩
theorem drawRight_en (l : List Int) (hl : l.length ≤ maxLen) (i h : Int) (h0 : 0 ≤ i) : En (fun k => spec_l3DrawRight.f k l i h) (fun r => 0 ≤ r.2.2.2.2.2.2.2.2.2.2.2.2.2.2.1) := by
  unfold spec_l3DrawRight.f
  refine En.bind (below_en l hl _ _ _ h0) (fun r1 h1 => ?_)
  refine En.bind (below_en l hl _ _ _ h1) (fun r2 h2 => ?_)
  refine En.bind (below_en l hl _ _ _ h2) (fun r3 h3 => ?_)
  refine En.ite (fun _ => ?_) (fun _ => En.ite (fun _ => ?_) (fun _ => ?_))
  · refine En.bind (below_en l hl _ _ _ h3) (fun r4 h4 => ?_)
    refine En.bind (below_en l hl _ _ _ h4) (fun r5 h5 => ?_)
    refine En.bind (below_en l hl _ _ _ h5) (fun r6 h6 => ?_)
    refine En.bind (some_en (snewDue_some _ _ _ _ _)) (fun r7 _ => ?_)
    refine En.bind (below_en l hl _ _ _ h6) (fun r8 h8 => ?_)
    exact drawRight0_en l hl _ _ h8 _ _ _ _ _ _ _ _ _ _ _ _ _ _
  · refine En.bind (below_en l hl _ _ _ h3) (fun r4 h4 => ?_)
    refine En.bind (below_en l hl _ _ _ h4) (fun r5 h5 => ?_)
    refine En.bind (below_en l hl _ _ _ h5) (fun r6 h6 => ?_)
    refine En.bind (some_en (snewFixed_some _ _ _ _ _)) (fun r7 _ => ?_)
    refine En.ite (fun _ => ?_) (fun _ => ?_)
    · refine En.bind (below_en l hl _ _ _ h6) (fun r8 h8 => ?_)
      exact drawRight0_en l hl _ _ h8 _ _ _ _ _ _ _ _ _ _ _ _ _ _
    · exact drawRight0_en l hl _ _ h6 _ _ _ _ _ _ _ _ _ _ _ _ _ _
  · refine En.bind (below_en l hl _ _ _ h3) (fun r4 h4 => ?_)
    refine En.bind (below_en l hl _ _ _ h4) (fun r5 h5 => ?_)
    refine En.bind (some_en (snewFair_some _ _ _ _)) (fun r7 _ => ?_)
    exact drawRight0_en l hl _ _ h5 _ _ _ _ _ _ _ _ _ _ _ _ _ _
theorem pick_some (l : List Int) (hl : l.length ≤ maxLen) (i h : Int) (xs : List Int) (h0 : 0 ≤ i) (hx : 0 < xs.length) : ∃ r i' h', spec_l1PickInt.f l i h xs = some (r, i', h') ∧ 0 ≤ i' ∧ r ∈ xs := by
  unfold spec_l1PickInt.f
  obtain ⟨r, i1, h1, e, p1, r0, r1, _⟩ := below_some l hl i h (xs.length : Int) h0
  have r1 := r1 (by omega)
  rw [e]
  simp only [Option.bind_some]
  rw [if_pos r0, if_pos r1]
  refine ⟨_, _, _, rfl, p1, ?_⟩
  unfold rd
  rw [List.getD_eq_getElem?_getD, List.getElem?_eq_getElem (by omega), Option.getD_some]
  exact List.getElem_mem _
theorem pick_en (l : List Int) (hl : l.length ≤ maxLen) (i h : Int) (x : Int) (xs : List Int) (h0 : 0 ≤ i) : En (fun _ => spec_l1PickInt.f l i h (x :: xs)) (fun r => 0 ≤ r.2.1) := by
  obtain ⟨r, i', h', e, p, _⟩ := pick_some l hl i h (x :: xs) h0 (by simp)
  exact En.of ⟨_, e, p⟩
theorem draw3_en (l : List Int) (hl : l.length ≤ maxLen) (i h : Int) (h0 : 0 ≤ i) : En (fun k => spec_l3Draw.f k l i h) (fun r => 0 ≤ r.2.2.2.2.2.2.2.2.2.2.2.2.2.2.1) := by
  unfold spec_l3Draw.f
  refine En.bind (drawRight_en l hl i h h0) (fun r1 h1 => ?_)
  refine En.bind (below_en l hl _ _ _ h1) (fun r2 h2 => ?_)
  refine En.ite (fun _ => En.bind (pick_en l hl _ _ _ _ h2) (fun r3 h3 => draw3j_en l _ _ h3 _ _ _ _ _ _ _ _ _ _ _ _ _ _)) (fun _ => ?_)
  refine En.ite (fun _ => En.bind (pick_en l hl _ _ _ _ h2) (fun r3 h3 => draw3j_en l _ _ h3 _ _ _ _ _ _ _ _ _ _ _ _ _ _)) (fun _ => ?_)
  refine En.ite (fun _ => En.bind (below_en l hl _ _ _ h2) (fun r3 h3 => draw3j_en l _ _ h3 _ _ _ _ _ _ _ _ _ _ _ _ _ _)) (fun _ => ?_)
  refine En.ite (fun _ => En.bind (below_en l hl _ _ _ h2) (fun r3 h3 => draw3j_en l _ _ h3 _ _ _ _ _ _ _ _ _ _ _ _ _ _)) (fun _ => ?_)
  refine En.ite (fun _ => En.bind (below_en l hl _ _ _ h2) (fun r3 h3 => draw3j_en l _ _ h3 _ _ _ _ _ _ _ _ _ _ _ _ _ _)) (fun _ => ?_)
  refine En.ite (fun _ => En.bind (pick_en l hl _ _ _ _ h2) (fun r3 h3 => draw3j_en l _ _ h3 _ _ _ _ _ _ _ _ _ _ _ _ _ _)) (fun _ => ?_)
  refine En.ite (fun _ => En.bind (pick_en l hl _ _ _ _ h2) (fun r3 h3 => draw3j_en l _ _ h3 _ _ _ _ _ _ _ _ _ _ _ _ _ _)) (fun _ => ?_)
  refine En.ite (fun _ => En.bind (below_en l hl _ _ _ h2) (fun r3 h3 => draw3j_en l _ _ h3 _ _ _ _ _ _ _ _ _ _ _ _ _ _)) (fun _ => ?_)
  exact draw3j_en l _ _ h2 _ _ _ _ _ _ _ _ _ _ _ _ _ _
theorem belowR_en (l : List Int) (hl : l.length ≤ maxLen) (i h n : Int) (h0 : 0 ≤ i) (hn : 0 < n) : En (fun _ => spec_l1Below.f l i h n) (fun r => (0 ≤ r.1 ∧ r.1 < n) ∧ 0 ≤ r.2.1) := by
  obtain ⟨r, i', h', e, p, q, s, _⟩ := below_some l hl i h n h0
  exact En.of ⟨_, e, ⟨q, s hn⟩, p⟩
/-! Lists of tasks: what is read of them. -/
theorem rdT (l : List S30) (i : Nat) (h : i < l.length) : rd_T30 l (i : Int) = l[i] := by
  unfold rd_T30
  rw [Int.toNat_natCast, List.getD_eq_getElem?_getD, List.getElem?_eq_getElem h, Option.getD_some]
def tOk (t : S30) : Prop := TaskP t.f0 t.f1 t.f2 t.f3 t.f5 t.f6 t.f7 t.f8 t.f9 t.f10 t.f11 t.f12 t.f13
instance (t : S30) : Decidable (tOk t) := by unfold tOk; infer_instance
/-- What makes a list of tasks right from place i on. -/
def tsFrom (l : List S30) (i : Nat) : Prop := (∀ j, i ≤ j → ∀ h : j < l.length, tOk l[j] ∧ (0 < j → (l[j - 1]).f0 < (l[j]).f0)) ∧ l.length ≤ 12
noncomputable instance (l : List S30) (i : Nat) : Decidable (tsFrom l i) := Classical.propDecidable _
theorem tsFrom_end (l : List S30) (i : Nat) (h : ¬ i < l.length) : tsFrom l i ↔ l.length ≤ 12 := ⟨fun x => x.2, fun x => ⟨fun j hj hl => absurd hl (by omega), x⟩⟩
theorem tsFrom_step (l : List S30) (i : Nat) (h : i < l.length) : tsFrom l i ↔ (tOk l[i] ∧ (0 < i → (l[i - 1]).f0 < (l[i]).f0)) ∧ tsFrom l (i + 1) := by
  constructor
  · intro x
    exact ⟨x.1 i (Nat.le_refl _) h, fun j hj hl => x.1 j (by omega) hl, x.2⟩
  · intro x
    refine ⟨fun j hj hl => ?_, x.2.2⟩
    by_cases e : j = i
    · subst e
      exact x.1
    · exact x.2.1 j (by omega) hl
theorem sTasksOk_loop (l : List S30) (hl : l.length ≤ 1048576000) : ∀ (k i : Nat), l.length - i < k → spec_TasksOk.l0 k l (i : Int) = some (decide (tsFrom l i)) := by
  intro k
  induction k with
  | zero => intro i h; omega
  | succ k ih =>
    intro i h
    simp only [spec_TasksOk.l0, spec_TaskOk.f, Option.bind_some]
    by_cases hi : i < l.length
    · rw [if_pos (by omega), if_pos (by omega), rdT l i hi, wr ((i : Int) + 1) (by omega) (by omega)]
      have es := tsFrom_step l i hi
      by_cases ht : tOk l[i]
      · rw [show decide (TaskP (l[i]).f0 (l[i]).f1 (l[i]).f2 (l[i]).f3 (l[i]).f5 (l[i]).f6 (l[i]).f7 (l[i]).f8 (l[i]).f9 (l[i]).f10 (l[i]).f11 (l[i]).f12 (l[i]).f13) = true from decide_eq_true ht, if_pos rfl]
        have en := ih (i + 1) (by omega)
        by_cases h0 : 0 < i
        · rw [if_pos (by omega), wr ((i : Int) - 1) (by omega) (by omega), if_pos (by omega), if_pos (by omega), show (i : Int) - 1 = ((i - 1 : Nat) : Int) by omega, rdT l (i - 1) (by omega)]
          by_cases hc : (l[i - 1]).f0 ≥ (l[i]).f0
          · rw [if_pos hc]
            exact congrArg some (decide_eq_false fun x => by have := (es.1 x).1.2 h0; omega).symm
          · rw [if_neg hc]
            refine en.trans (congrArg some (decide_eq_decide.2 ?_))
            exact ⟨fun x => es.2 ⟨⟨ht, fun _ => by omega⟩, x⟩, fun x => (es.1 x).2⟩
        · rw [if_neg (by omega)]
          refine en.trans (congrArg some (decide_eq_decide.2 ?_))
          exact ⟨fun x => es.2 ⟨⟨ht, fun z => absurd z h0⟩, x⟩, fun x => (es.1 x).2⟩
      · rw [show decide (TaskP (l[i]).f0 (l[i]).f1 (l[i]).f2 (l[i]).f3 (l[i]).f5 (l[i]).f6 (l[i]).f7 (l[i]).f8 (l[i]).f9 (l[i]).f10 (l[i]).f11 (l[i]).f12 (l[i]).f13) = false from decide_eq_false ht, if_neg (by decide)]
        exact congrArg some (decide_eq_false fun x => ht (es.1 x).1.1).symm
    · rw [if_neg (by omega)]
      refine congrArg some (decide_eq_decide.2 ?_)
      rw [tsFrom_end l i hi]
      omega
theorem sTasksOk_ev (l : List S30) (hl : l.length ≤ 1048576000) : Ev (fun k => spec_TasksOk.f k l) (decide (tsFrom l 0)) := by
  refine Ev.of (fun k => spec_TasksOk.mono l k) (k := l.length + 1) ?_
  unfold spec_TasksOk.f
  exact sTasksOk_loop l hl (l.length + 1) 0 (by omega)
theorem sTasksOk_en (l : List S30) (hl : l.length ≤ 1048576000) : En (fun k => spec_TasksOk.f k l) (fun _ => True) := ⟨_, sTasksOk_ev l hl, trivial⟩
theorem taskPut_end (l x6 : List S30) (hl : l.length ≤ 1000) (h6 : x6.length ≤ l.length + 1) : En (fun k => (spec_TasksOk.f k x6).bind fun t => (if t = true then (some (x6, true)) else ((some (([] : List (S30)) : List (S30))).bind fun y => (if y.length + l.length < 1256584717458 then (some ((y ++ l), false)) else (none))))) (fun r => r.1.length ≤ l.length + 1) := by
  refine En.bind (sTasksOk_en x6 (by omega)) (fun t _ => ?_)
  refine En.ite (fun _ => En.now h6) (fun _ => ?_)
  simp only [Option.bind_some]
  refine En.ite (fun _ => En.now ?_) (fun h => absurd (by simp only [List.length_nil]; omega) h)
  simp only [List.nil_append]
  omega
theorem taskPut_loop (l : List S30) (hl : l.length ≤ 1000) : ∀ (d i : Nat) (x6 : List S30) (x7 : Bool) (a0 a1 a2 a3 : Int) (a4 : Bool) (a5 a6 a7 a8 a9 a10 a11 a12 a13 : Int), l.length - i = d → i ≤ l.length → x6.length ≤ i + x7.toNat → En (fun k => spec_TaskPut.l0 k l x6 x7 (i : Int) a0 a1 a2 a3 a4 a5 a6 a7 a8 a9 a10 a11 a12 a13) (fun r => r.1.length ≤ l.length + 1) := by
  intro d
  induction d with
  | zero =>
    intro i x6 x7 a0 a1 a2 a3 a4 a5 a6 a7 a8 a9 a10 a11 a12 a13 hd hi hx
    refine En.step (fun k => by simp only [spec_TaskPut.l0]; rfl) ?_
    refine En.ite (fun h => absurd h (by omega)) (fun _ => ?_)
    cases x7 with
    | true =>
      simp only [Bool.toNat_true] at hx
      exact En.ite (fun _ => taskPut_end l x6 hl (by omega)) (fun h => absurd rfl h)
    | false =>
      simp only [Bool.toNat_false] at hx
      refine En.ite (fun h => absurd h (by decide)) (fun _ => ?_)
      refine En.ite (fun _ => ?_) (fun h => absurd (by omega) h)
      simp only [Option.bind_some]
      exact taskPut_end l _ hl (by rw [List.length_append, List.length_singleton]; omega)
  | succ d ih =>
    intro i x6 x7 a0 a1 a2 a3 a4 a5 a6 a7 a8 a9 a10 a11 a12 a13 hd hi hx
    refine En.step (fun k => by simp only [spec_TaskPut.l0]; rfl) ?_
    refine En.ite (fun _ => ?_) (fun h => absurd (by omega) h)
    have e : wrap64 ((i : Int) + 1) = ((i + 1 : Nat) : Int) := by rw [wr _ (by omega) (by omega)]; omega
    cases x7 with
    | true =>
      simp only [Bool.toNat_true] at hx
      refine En.ite (fun _ => ?_) (fun h => absurd rfl h)
      refine En.ite (fun _ => ?_) (fun h => absurd (by omega) h)
      refine En.ite (fun _ => ?_) (fun h => absurd (by omega) h)
      rw [e]
      exact ih (i + 1) _ true a0 a1 a2 a3 a4 a5 a6 a7 a8 a9 a10 a11 a12 a13 (by omega) (by omega) (by rw [List.length_append, List.length_singleton, Bool.toNat_true]; omega)
    | false =>
      simp only [Bool.toNat_false] at hx
      refine En.ite (fun h => absurd h (by decide)) (fun _ => ?_)
      refine En.ite (fun _ => ?_) (fun h => absurd (by omega) h)
      refine En.ite (fun _ => ?_) (fun _ => ?_)
      · refine En.ite (fun _ => ?_) (fun h => absurd (by omega) h)
        simp only [Option.bind_some]
        refine En.ite (fun _ => ?_) (fun h => absurd (by rw [List.length_append, List.length_singleton]; omega) h)
        rw [e]
        exact ih (i + 1) _ true a0 a1 a2 a3 a4 a5 a6 a7 a8 a9 a10 a11 a12 a13 (by omega) (by omega) (by rw [List.length_append, List.length_append, List.length_singleton, List.length_singleton, Bool.toNat_true]; omega)
      · refine En.ite (fun _ => ?_) (fun h => absurd (by omega) h)
        rw [e]
        exact ih (i + 1) _ false a0 a1 a2 a3 a4 a5 a6 a7 a8 a9 a10 a11 a12 a13 (by omega) (by omega) (by rw [List.length_append, List.length_singleton, Bool.toNat_false]; omega)
theorem taskPut_en (l : List S30) (hl : l.length ≤ 1000) (a0 a1 a2 a3 : Int) (a4 : Bool) (a5 a6 a7 a8 a9 a10 a11 a12 a13 : Int) : En (fun k => spec_TaskPut.f k l a0 a1 a2 a3 a4 a5 a6 a7 a8 a9 a10 a11 a12 a13) (fun r => r.1.length ≤ l.length + 1) := by
  unfold spec_TaskPut.f
  refine En.bind (sTasksOk_en l (by omega)) (fun t _ => ?_)
  refine En.ite (fun _ => taskPut_loop l hl l.length 0 [] false a0 a1 a2 a3 a4 a5 a6 a7 a8 a9 a10 a11 a12 a13 (by omega) (by omega) (by simp)) (fun _ => En.now (by simp))
theorem drawList_loop (l : List Int) (hl : l.length ≤ maxLen) (m : Nat) (hm : m ≤ 30) : ∀ (d x : Nat) (i h : Int) (y : List S30), m - x = d → x ≤ m → y.length ≤ x → 0 ≤ i → En (fun k => spec_l3DrawList.l0 k y (m : Int) (x : Int) l i h) (fun r => r.1.length ≤ 31 ∧ 0 ≤ r.2.1) := by
  intro d
  induction d with
  | zero =>
    intro x i h y hd hx hy h0
    refine En.step (fun k => by simp only [spec_l3DrawList.l0]; rfl) ?_
    refine En.ite (fun h => absurd h (by omega)) (fun _ => ?_)
    refine En.bind (once_en l hl _ _ _ h0) (fun r hr => ?_)
    refine En.ite (fun _ => ?_) (fun _ => En.now ⟨show y.length ≤ 31 by omega, hr⟩)
    refine En.bind (draw3_en l hl _ _ hr) (fun s hs => ?_)
    refine En.ite (fun _ => En.now ⟨?_, hs⟩) (fun h => absurd (by omega) h)
    rw [List.length_append, List.length_singleton]
    omega
  | succ d ih =>
    intro x i h y hd hx hy h0
    refine En.step (fun k => by simp only [spec_l3DrawList.l0]; rfl) ?_
    refine En.ite (fun _ => ?_) (fun h => absurd (by omega) h)
    have e : wrap64 ((x : Int) + 1) = ((x + 1 : Nat) : Int) := by rw [wr _ (by omega) (by omega)]; omega
    refine En.bind (drawRight_en l hl _ _ h0) (fun r hr => ?_)
    refine En.bind (taskPut_en y (by omega) _ _ _ _ _ _ _ _ _ _ _ _ _ _) (fun s hs => ?_)
    rw [e]
    exact En.ite (fun _ => ih (x + 1) _ _ _ (by omega) (by omega) (by omega) hr) (fun _ => ih (x + 1) _ _ _ (by omega) (by omega) (by omega) hr)
theorem drawList_en (l : List Int) (hl : l.length ≤ maxLen) (i h : Int) (h0 : 0 ≤ i) : En (fun k => spec_l3DrawList.f k l i h) (fun r => r.1.length ≤ 31 ∧ 0 ≤ r.2.1) := by
  unfold spec_l3DrawList.f
  simp only [Option.bind_some]
  refine En.bind (belowR_en l hl _ _ _ h0 (by decide)) (fun r hr => ?_)
  refine En.bind (once_en l hl _ _ _ hr.2) (fun s hs => ?_)
  refine En.ite (fun _ => ?_) (fun _ => ?_)
  · refine En.step (fun k => by simp only [spec_l3DrawList.j0]; rfl) ?_
    exact drawList_loop l hl 30 (by omega) 30 0 _ _ [] (by omega) (by omega) (by simp) hs
  · refine En.step (fun k => by simp only [spec_l3DrawList.j0]; rfl) ?_
    have := drawList_loop l hl r.1.toNat (by omega) r.1.toNat 0 s.2.1 s.2.2 [] (by omega) (by omega) (by simp) hs
    rw [show ((r.1.toNat : Nat) : Int) = r.1 by omega] at this
    exact this
/-! The cursor over the drawn bytes: whatever it holds, a draw answers. -/
theorem new_loop (l : List Int) (hl : l.length ≤ maxLen) (d : Nat) : ∀ (k : Nat) (h i : Int), 0 ≤ i → (l.length : Int) - i ≤ d → d < k → ∃ h', spec_l1New.l0 k l h i = some (l, 0, h') := by
  unfold maxLen at hl
  induction d with
  | zero =>
    intro k h i h0 hd hk
    obtain ⟨k, rfl⟩ : ∃ m, k = m + 1 := ⟨k - 1, by omega⟩
    exact ⟨h, by simp only [spec_l1New.l0]; rw [if_neg (by omega)]⟩
  | succ d ih =>
    intro k h i h0 hd hk
    obtain ⟨k, rfl⟩ : ∃ m, k = m + 1 := ⟨k - 1, by omega⟩
    simp only [spec_l1New.l0]
    by_cases e : i < (l.length : Int)
    · rw [if_pos e]
      by_cases e2 : i < 4000
      · rw [if_pos e2, if_pos h0, wr (i + 1) (by omega) (by omega)]
        exact ih k _ _ (by omega) (by omega) (by omega)
      · rw [if_neg e2]
        exact ⟨_, rfl⟩
    · rw [if_neg e]
      exact ⟨_, rfl⟩
theorem new_ev (l : List Int) (hl : l.length ≤ maxLen) : ∃ h, Ev (fun k => spec_l1New.f k l) (l, 0, h) := by
  obtain ⟨h, e⟩ := new_loop l hl l.length (l.length + 1) (wrap64 (18511 + (l.length : Int))) 0 (by omega) (by omega) (by omega)
  exact ⟨h, Ev.of (fun k => spec_l1New.mono l k) e⟩
theorem new_en (l : List Int) (hl : l.length ≤ maxLen) : En (fun k => spec_l1New.f k l) (fun r => r.1 = l ∧ 0 ≤ r.2.1) := by
  obtain ⟨h, e⟩ := new_ev l hl
  exact ⟨_, e, rfl, Int.le_refl _⟩
theorem drawTaskPut_en (l : List Int) (hl : l.length ≤ maxLen) : En (fun k => spec_DrawTaskPut.f k l) (fun r => r.1.length ≤ 31) := by
  unfold spec_DrawTaskPut.f
  refine En.bind (new_en l hl) (fun r hr => ?_)
  rw [hr.1]
  refine En.bind (drawList_en l hl _ _ hr.2) (fun s hs => ?_)
  exact En.bind (draw3_en l hl _ _ hs.2) (fun t _ => En.now hs.1)
theorem iTasksOk_loop (l : List S30) (hl : l.length ≤ 1048576000) : ∀ (k i : Nat), l.length - i < k → impl_TasksOk.l0 k l l (l.length : Int) (i : Int) = some (decide (tsFrom l i)) := by
  intro k
  induction k with
  | zero => intro i h; omega
  | succ k ih =>
    intro i h
    simp only [impl_TasksOk.l0, impl_TaskOk.f, Option.bind_some]
    by_cases hi : i < l.length
    · rw [if_pos (by omega), if_pos (by omega), if_pos (by omega), rdT l i hi, wr ((i : Int) + 1) (by omega) (by omega)]
      have es := tsFrom_step l i hi
      by_cases ht : tOk l[i]
      · rw [show decide (TaskP (l[i]).f0 (l[i]).f1 (l[i]).f2 (l[i]).f3 (l[i]).f5 (l[i]).f6 (l[i]).f7 (l[i]).f8 (l[i]).f9 (l[i]).f10 (l[i]).f11 (l[i]).f12 (l[i]).f13) = true from decide_eq_true ht, if_pos rfl]
        have en := ih (i + 1) (by omega)
        by_cases h0 : 0 < i
        · rw [if_pos (by omega), wr ((i : Int) - 1) (by omega) (by omega), if_pos (by omega), if_pos (by omega), show (i : Int) - 1 = ((i - 1 : Nat) : Int) by omega, rdT l (i - 1) (by omega)]
          by_cases hc : (l[i - 1]).f0 ≥ (l[i]).f0
          · rw [if_pos hc]
            exact congrArg some (decide_eq_false fun x => by have := (es.1 x).1.2 h0; omega).symm
          · rw [if_neg hc]
            refine en.trans (congrArg some (decide_eq_decide.2 ?_))
            exact ⟨fun x => es.2 ⟨⟨ht, fun _ => by omega⟩, x⟩, fun x => (es.1 x).2⟩
        · rw [if_neg (by omega)]
          refine en.trans (congrArg some (decide_eq_decide.2 ?_))
          exact ⟨fun x => es.2 ⟨⟨ht, fun z => absurd z h0⟩, x⟩, fun x => (es.1 x).2⟩
      · rw [show decide (TaskP (l[i]).f0 (l[i]).f1 (l[i]).f2 (l[i]).f3 (l[i]).f5 (l[i]).f6 (l[i]).f7 (l[i]).f8 (l[i]).f9 (l[i]).f10 (l[i]).f11 (l[i]).f12 (l[i]).f13) = false from decide_eq_false ht, if_neg (by decide)]
        exact congrArg some (decide_eq_false fun x => ht (es.1 x).1.1).symm
    · rw [if_neg (by omega)]
      refine congrArg some (decide_eq_decide.2 ?_)
      rw [tsFrom_end l i hi]
      omega
theorem iTasksOk_ev (l : List S30) (hl : l.length ≤ 1048576000) : Ev (fun k => impl_TasksOk.f k l) (decide (tsFrom l 0)) := by
  refine Ev.of (fun k => impl_TasksOk.mono l k) (k := l.length + 1) ?_
  unfold impl_TasksOk.f
  exact iTasksOk_loop l hl (l.length + 1) 0 (by omega)
noncomputable def putR (l : List S30) (p : Nat) (x : S30) : List S30 × Bool := if tsFrom (l.take p ++ [x] ++ l.drop p) 0 then (l.take p ++ [x] ++ l.drop p, true) else (l, false)
theorem putI_end (l : List S30) (hl : l.length ≤ 1000) (i : Nat) (hi : i ≤ l.length) (a0 a1 a2 a3 : Int) (a4 : Bool) (a5 a6 a7 a8 a9 a10 a11 a12 a13 : Int) : Ev (fun k => impl_TaskPut.j1 k l (i : Int) a0 a1 a2 a3 a4 a5 a6 a7 a8 a9 a10 a11 a12 a13) (putR l i ⟨a0, a1, a2, a3, a4, a5, a6, a7, a8, a9, a10, a11, a12, a13⟩) := by
  refine Ev.step (fun k => by simp only [impl_TaskPut.j1, impl_Task_21.f, impl_Task_20.f]; rfl) ?_
  rw [if_pos (show l.length < 1000000000000 by omega)]
  simp only [Option.bind_some]
  rw [if_pos (show l.length < 1000000000000 ∧ 0 ≤ (i : Int) ∧ (i : Int) ≤ (l.length : Int) ∧ [(⟨a0, a1, a2, a3, a4, a5, a6, a7, a8, a9, a10, a11, a12, a13⟩ : S30)].length = 1 from ⟨by omega, by omega, by omega, rfl⟩)]
  simp only [Option.bind_some, Int.toNat_natCast]
  refine Ev.bind (iTasksOk_ev _ (by simp only [List.length_append, List.length_take, List.length_drop, List.length_singleton]; omega)) ?_
  unfold putR
  by_cases h : tsFrom (l.take i ++ [⟨a0, a1, a2, a3, a4, a5, a6, a7, a8, a9, a10, a11, a12, a13⟩] ++ l.drop i) 0
  · rw [if_pos h]
    exact evPos (decide_eq_true h) (Ev.now _)
  · rw [if_neg h]
    exact evNeg (by rw [decide_eq_true_eq]; exact h) (Ev.now _)
theorem putS_end (l x6 : List S30) (hl : l.length ≤ 1000) (h6 : x6.length ≤ l.length + 1) : Ev (fun k => (spec_TasksOk.f k x6).bind fun t => (if t = true then (some (x6, true)) else ((some (([] : List (S30)) : List (S30))).bind fun y => (if y.length + l.length < 1256584717458 then (some ((y ++ l), false)) else (none))))) (if tsFrom x6 0 then (x6, true) else (l, false)) := by
  refine Ev.bind (sTasksOk_ev x6 (by omega)) ?_
  by_cases h : tsFrom x6 0
  · rw [if_pos h]
    exact evPos (decide_eq_true h) (Ev.now _)
  · rw [if_neg h]
    refine evNeg (by rw [decide_eq_true_eq]; exact h) ?_
    simp only [Option.bind_some]
    exact evPos (by simp only [List.length_nil]; omega) (Ev.now _)
theorem putS_two (l : List S30) (hl : l.length ≤ 1000) (a0 a1 a2 a3 : Int) (a4 : Bool) (a5 a6 a7 a8 a9 a10 a11 a12 a13 : Int) : ∀ (d i : Nat) (x6 : List S30), l.length - i = d → i ≤ l.length → x6.length ≤ i + 1 → Ev (fun k => spec_TaskPut.l0 k l x6 true (i : Int) a0 a1 a2 a3 a4 a5 a6 a7 a8 a9 a10 a11 a12 a13) (if tsFrom (x6 ++ l.drop i) 0 then (x6 ++ l.drop i, true) else (l, false)) := by
  intro d
  induction d with
  | zero =>
    intro i x6 hd hi hx
    refine Ev.step (fun k => by simp only [spec_TaskPut.l0]; rfl) ?_
    refine evNeg (by omega) (evPos trivial ?_)
    rw [List.drop_eq_nil_of_le (by omega), List.append_nil]
    exact putS_end l x6 hl (by omega)
  | succ d ih =>
    intro i x6 hd hi hx
    have hi2 : i < l.length := by omega
    have e : wrap64 ((i : Int) + 1) = ((i + 1 : Nat) : Int) := by rw [wr _ (by omega) (by omega)]; omega
    refine Ev.step (fun k => by simp only [spec_TaskPut.l0]; rfl) ?_
    refine evPos (by omega) (evPos trivial (evPos (by omega) (evPos (by omega) ?_)))
    rw [e, rdT l i hi2]
    have q := ih (i + 1) (x6 ++ [l[i]]) (by omega) (by omega) (by rw [List.length_append, List.length_singleton]; omega)
    rw [List.append_assoc, List.singleton_append, List.getElem_cons_drop] at q
    exact q
theorem put_both (l : List S30) (hl : l.length ≤ 1000) (a0 a1 a2 a3 : Int) (a4 : Bool) (a5 a6 a7 a8 a9 a10 a11 a12 a13 : Int) : ∀ (d i : Nat), l.length - i = d → i ≤ l.length → ∃ p, p ≤ l.length ∧ Ev (fun k => spec_TaskPut.l0 k l (l.take i) false (i : Int) a0 a1 a2 a3 a4 a5 a6 a7 a8 a9 a10 a11 a12 a13) (putR l p ⟨a0, a1, a2, a3, a4, a5, a6, a7, a8, a9, a10, a11, a12, a13⟩) ∧ Ev (fun k => impl_TaskPut.l0 k l (i : Int) a0 a1 a2 a3 a4 a5 a6 a7 a8 a9 a10 a11 a12 a13) (putR l p ⟨a0, a1, a2, a3, a4, a5, a6, a7, a8, a9, a10, a11, a12, a13⟩) := by
  intro d
  induction d with
  | zero =>
    intro i hd hi
    have e : i = l.length := by omega
    subst e
    have hi2 := putI_end l hl l.length (Nat.le_refl _) a0 a1 a2 a3 a4 a5 a6 a7 a8 a9 a10 a11 a12 a13
    refine ⟨l.length, Nat.le_refl _, ?_, ?_⟩
    · refine Ev.step (fun k => by simp only [spec_TaskPut.l0]; rfl) ?_
      refine evNeg (by omega) (evNeg (by decide) (evPos (by rw [List.length_take]; omega) ?_))
      simp only [Option.bind_some]
      have q := putS_end l (l.take l.length ++ [⟨a0, a1, a2, a3, a4, a5, a6, a7, a8, a9, a10, a11, a12, a13⟩]) hl (by simp only [List.length_append, List.length_take, List.length_singleton]; omega)
      unfold putR
      rw [List.drop_length, List.append_nil]
      exact q
    · refine Ev.step (fun k => by simp only [impl_TaskPut.l0]; rfl) ?_
      exact evNeg (by omega) hi2
  | succ d ih =>
    intro i hd hi
    have hi2 : i < l.length := by omega
    have e : wrap64 ((i : Int) + 1) = ((i + 1 : Nat) : Int) := by rw [wr _ (by omega) (by omega)]; omega
    by_cases hc : (l[i]).f0 < a0
    · obtain ⟨p, hp, h1, h2⟩ := ih (i + 1) (by omega) (by omega)
      refine ⟨p, hp, ?_, ?_⟩
      · refine Ev.step (fun k => by simp only [spec_TaskPut.l0]; rfl) ?_
        refine evPos (by omega) (evNeg (by decide) (evPos (by omega) ?_))
        rw [e, rdT l i hi2]
        refine evNeg (by omega) (evPos (by rw [List.length_take]; omega) ?_)
        rw [List.take_succ_eq_append_getElem hi2] at h1
        exact h1
      · refine Ev.step (fun k => by simp only [impl_TaskPut.l0]; rfl) ?_
        refine evPos (by omega) (evPos (by omega) ?_)
        rw [e, rdT l i hi2]
        exact evPos hc h2
    · refine ⟨i, hi, ?_, ?_⟩
      · refine Ev.step (fun k => by simp only [spec_TaskPut.l0]; rfl) ?_
        refine evPos (by omega) (evNeg (by decide) (evPos (by omega) ?_))
        rw [e, rdT l i hi2]
        refine evPos (by omega) (evPos (by rw [List.length_take]; omega) ?_)
        simp only [Option.bind_some]
        refine evPos (by simp only [List.length_append, List.length_take, List.length_singleton]; omega) ?_
        have q := putS_two l hl a0 a1 a2 a3 a4 a5 a6 a7 a8 a9 a10 a11 a12 a13 (l.length - (i + 1)) (i + 1) (l.take i ++ [⟨a0, a1, a2, a3, a4, a5, a6, a7, a8, a9, a10, a11, a12, a13⟩] ++ [l[i]]) rfl (by omega) (by simp only [List.length_append, List.length_take, List.length_singleton]; omega)
        rw [List.append_assoc _ [l[i]], List.singleton_append, List.getElem_cons_drop] at q
        exact q
      · refine Ev.step (fun k => by simp only [impl_TaskPut.l0]; rfl) ?_
        refine evPos (by omega) (evPos (by omega) ?_)
        rw [rdT l i hi2]
        exact evNeg hc (putI_end l hl i hi a0 a1 a2 a3 a4 a5 a6 a7 a8 a9 a10 a11 a12 a13)
/-- Both answer alike; and what the answer is. -/
theorem taskPut_both (l : List S30) (hl : l.length ≤ 1048576000) (a0 a1 a2 a3 : Int) (a4 : Bool) (a5 a6 a7 a8 a9 a10 a11 a12 a13 : Int) : ∃ r : List S30 × Bool, Ev (fun k => spec_TaskPut.f k l a0 a1 a2 a3 a4 a5 a6 a7 a8 a9 a10 a11 a12 a13) r ∧ Ev (fun k => impl_TaskPut.f k l a0 a1 a2 a3 a4 a5 a6 a7 a8 a9 a10 a11 a12 a13) r ∧ (r.2 = true → ∃ p, p ≤ l.length ∧ r.1 = l.take p ++ [⟨a0, a1, a2, a3, a4, a5, a6, a7, a8, a9, a10, a11, a12, a13⟩] ++ l.drop p ∧ tsFrom l 0 ∧ tsFrom r.1 0) ∧ (r.2 = false → r.1 = l ∨ r.1 = []) := by
  unfold spec_TaskPut.f impl_TaskPut.f
  by_cases h : tsFrom l 0
  · have hl2 : l.length ≤ 1000 := by have := h.2; omega
    obtain ⟨p, hp, h1, h2⟩ := put_both l hl2 a0 a1 a2 a3 a4 a5 a6 a7 a8 a9 a10 a11 a12 a13 l.length 0 (by omega) (by omega)
    refine ⟨putR l p ⟨a0, a1, a2, a3, a4, a5, a6, a7, a8, a9, a10, a11, a12, a13⟩, Ev.bind (sTasksOk_ev l hl) (evPos (decide_eq_true h) h1), Ev.bind (iTasksOk_ev l hl) (evPos (decide_eq_true h) h2), ?_, ?_⟩
    · intro z
      unfold putR at z ⊢
      by_cases g : tsFrom (l.take p ++ [⟨a0, a1, a2, a3, a4, a5, a6, a7, a8, a9, a10, a11, a12, a13⟩] ++ l.drop p) 0
      · rw [if_pos g]
        exact ⟨p, hp, rfl, h, g⟩
      · rw [if_neg g] at z
        cases z
    · intro z
      unfold putR at z ⊢
      by_cases g : tsFrom (l.take p ++ [⟨a0, a1, a2, a3, a4, a5, a6, a7, a8, a9, a10, a11, a12, a13⟩] ++ l.drop p) 0
      · rw [if_pos g] at z
        cases z
      · rw [if_neg g]
        exact .inl rfl
  · have hd : ¬ (decide (tsFrom l 0) = true) := by rw [decide_eq_true_eq]; exact h
    exact ⟨([], false), Ev.bind (sTasksOk_ev l hl) (evNeg hd (Ev.now _)), Ev.bind (iTasksOk_ev l hl) (evNeg hd (Ev.now _)), fun z => (by cases z), fun _ => .inr rfl⟩
theorem idxF_no {α : Type} (p : α → Bool) : ∀ (L : List α) (x : Int), (∀ t ∈ L, p t = false) → idxF p L x = -1
  | [], _, _ => rfl
  | a :: L, x, h => by
    rw [idxF, if_neg (by rw [h a List.mem_cons_self]; decide)]
    exact idxF_no p L (x + 1) (fun t ht => h t (List.mem_cons_of_mem _ ht))
theorem idxF_first {α : Type} (p : α → Bool) : ∀ (L : List α) (x : Int) (i : Nat) (hi : i < L.length), p L[i] = true → (∀ j (hj : j < i), p (L[j]'(by omega)) = false) → idxF p L x = x + (i : Int)
  | [], _, i, hi, _, _ => absurd hi (by simp)
  | a :: L, x, 0, _, h, _ => by
    rw [idxF, if_pos (show p a = true from h)]
    omega
  | a :: L, x, i + 1, hi, h, hn => by
    have h0 := hn 0 (by omega)
    rw [idxF, if_neg (by rw [show p a = false from h0]; decide)]
    have := idxF_first p L (x + 1) i (by simpa using hi) h (fun j hj => hn (j + 1) (by omega))
    rw [this]
    omega
theorem ts_asc (L : List S30) (h : tsFrom L 0) : ∀ (j i : Nat) (hj : j < L.length) (hi : i < j), (L[i]).f0 < (L[j]).f0 := by
  intro j
  induction j with
  | zero => intro i _ hi; omega
  | succ j ih =>
    intro i hj hi
    have h1 := (h.1 (j + 1) (by omega) hj).2 (by omega)
    simp only [Nat.add_sub_cancel] at h1
    by_cases e : i = j
    · subst e
      exact h1
    · have := ih i (by omega) (by omega)
      omega
theorem taskAt_mem (L : List S30) (h : tsFrom L 0) (x : S30) (hx : x ∈ L) : ∃ n : Nat, impl_TaskAt.f L x.f0 = some (n : Int) ∧ n < L.length ∧ rd_T30 L (n : Int) = x := by
  obtain ⟨i, hi, rfl⟩ := List.getElem_of_mem hx
  refine ⟨i, ?_, hi, rdT L i hi⟩
  unfold impl_TaskAt.f
  have := idxF_first (fun t : S30 => t.f0 == (L[i]).f0) L 0 i hi (by simp) (fun j hj => by
    have := ts_asc L h i j hi hj
    simp only [beq_eq_false_iff_ne]
    omega)
  rw [this]
  simp
theorem tasks_loop (l L : List S30) (hl : l.length ≤ 1000) (hL : tsFrom L 0) (hn : L.length = l.length + 1) (hm : ∀ x ∈ l, x ∈ L) : ∀ (d i : Nat), l.length - i = d → i ≤ l.length → Ev (fun k => laws_FnTasks.l0 k l L (i : Int)) true := by
  intro d
  induction d with
  | zero =>
    intro i hd hi
    refine Ev.step (fun k => by simp only [laws_FnTasks.l0]; rfl) ?_
    refine evNeg (by omega) (Ev.bind (iTasksOk_ev L (by omega)) (evPos (decide_eq_true hL) ?_))
    refine evEq _ (fun _ => rfl) ?_
    rw [wr _ (by omega) (by omega), hn]
    simp
  | succ d ih =>
    intro i hd hi
    have hi2 : i < l.length := by omega
    have e : wrap64 ((i : Int) + 1) = ((i + 1 : Nat) : Int) := by rw [wr _ (by omega) (by omega)]; omega
    obtain ⟨n, h1, h2, h3⟩ := taskAt_mem L hL l[i] (hm _ (List.getElem_mem hi2))
    refine Ev.step (fun k => by simp only [laws_FnTasks.l0]; rfl) ?_
    refine evPos (by omega) (evPos (by omega) ?_)
    rw [rdT l i hi2, h1]
    simp only [Option.bind_some]
    refine evNeg (by omega) (evPos (by omega) (evPos (by omega) ?_))
    rw [h3]
    simp only [beq_self_eq_true, Bool.not_true, Bool.or_self]
    refine Ev.step (fun k => by simp only [laws_FnTasks.j3]; rfl) ?_
    rw [e]
    exact evNeg (by decide) (ih (i + 1) (by omega) (by omega))
theorem ts_pair (L : List S30) (h : tsFrom L 0) : L.Pairwise (fun a b => a.f0 < b.f0) := by
  rw [List.pairwise_iff_getElem]
  intro i j _ hj hij
  exact ts_asc L h j i hj hij
theorem tasks_done (l : List S30) (hl : l.length ≤ 1000) (r : List S30 × Bool) (a0 a1 a2 a3 : Int) (a4 : Bool) (a5 a6 a7 a8 a9 a10 a11 a12 a13 : Int) (ha : r.2 = true → ∃ p, p ≤ l.length ∧ r.1 = l.take p ++ [⟨a0, a1, a2, a3, a4, a5, a6, a7, a8, a9, a10, a11, a12, a13⟩] ++ l.drop p ∧ tsFrom l 0 ∧ tsFrom r.1 0) (hb : r.2 = false → r.1 = l ∨ r.1 = []) : Ev (fun k => laws_FnTasks.j0 k l r.1 r.2 false a0 a1 a2 a3 a4 a5 a6 a7 a8 a9 a10 a11 a12 a13) true := by
  obtain ⟨L, b⟩ := r
  refine Ev.step (fun k => by simp only [laws_FnTasks.j0]; rfl) ?_
  refine evNeg (by decide) ?_
  cases b with
  | false =>
    refine evNeg (by decide) ?_
    rcases hb rfl with h | h
    · simp only [] at h
      subst h
      exact evPos rfl (Ev.now _)
    · simp only [] at h
      subst h
      by_cases z : (([] : List S30).length : Int) = (l.length : Int)
      · exact evPos z (Ev.now _)
      · exact evNeg z (evEq _ (fun _ => rfl) (by simp))
  | true =>
    refine evPos rfl ?_
    obtain ⟨p, hp, hr, h0, hL⟩ := ha rfl
    simp only [] at hr hL
    have hn : L.length = l.length + 1 := by
      rw [hr]
      simp only [List.length_append, List.length_take, List.length_drop, List.length_singleton]
      omega
    have hs : (⟨a0, a1, a2, a3, a4, a5, a6, a7, a8, a9, a10, a11, a12, a13⟩ : S30) ∈ L := by rw [hr]; simp
    have hm : ∀ x ∈ l, x ∈ L := by
      intro x hx
      rw [← List.take_append_drop p l, List.mem_append] at hx
      rw [hr]
      simp only [List.mem_append]
      rcases hx with hx | hx
      · exact .inl (.inl hx)
      · exact .inr hx
    obtain ⟨n, h1, h2, h3⟩ := taskAt_mem L hL _ hs
    simp only [] at h1
    have hno : impl_TaskAt.f l a0 = some (-1) := by
      unfold impl_TaskAt.f
      rw [idxF_no]
      intro t ht
      have q := ts_pair L hL
      rw [hr, List.pairwise_append] at q
      obtain ⟨q1, _, q3⟩ := q
      rw [List.pairwise_append] at q1
      rw [← List.take_append_drop p l, List.mem_append] at ht
      simp only [beq_eq_false_iff_ne]
      rcases ht with ht | ht
      · have := q1.2.2 t ht ⟨a0, a1, a2, a3, a4, a5, a6, a7, a8, a9, a10, a11, a12, a13⟩ (by simp)
        simp only [] at this
        omega
      · have := q3 ⟨a0, a1, a2, a3, a4, a5, a6, a7, a8, a9, a10, a11, a12, a13⟩ (by simp) t ht
        simp only [] at this
        omega
    rw [h1, hno]
    simp only [Option.bind_some]
    refine evNeg (by omega) (evPos (by omega) (evPos (by omega) ?_))
    rw [h3]
    simp only [beq_self_eq_true, Bool.not_true, Bool.or_self]
    refine evNeg (by decide) ?_
    refine Ev.step (fun k => by simp only [laws_FnTasks.j1]; rfl) ?_
    exact evNeg (by decide) (tasks_loop l L hl hL hn hm l.length 0 (by omega) (by omega))
theorem FnTasks : laws_FnTasks.Pure := by
  intro l hl _ _
  refine Ev.rounds (r := true) ?_
  unfold laws_FnTasks.f laws_big.f
  simp only [Option.bind_some, decide_eq_true_eq]
  by_cases hb : (l.length : Int) > 1048576
  · exact evPos hb (Ev.now _)
  · refine evNeg hb ?_
    obtain ⟨⟨T, a0, a1, a2, a3, a4, a5, a6, a7, a8, a9, a10, a11, a12, a13⟩, e, hT⟩ := drawTaskPut_en l hl
    simp only [] at hT
    refine Ev.bind e ?_
    obtain ⟨r, hs, hi, ha, hb⟩ := taskPut_both T (by omega) a0 a1 a2 a3 a4 a5 a6 a7 a8 a9 a10 a11 a12 a13
    refine Ev.bind hi (Ev.bind hs ?_)
    refine evNeg (by rw [bne_self_eq_false]; decide) ?_
    simp only [impl_TaskOk.f, spec_TaskOk.f, Option.bind_some]
    refine evNeg (by rw [bne_self_eq_false]; decide) ?_
    refine Ev.bind (iTasksOk_ev T (by omega)) (Ev.bind (sTasksOk_ev T (by omega)) ?_)
    rw [bne_self_eq_false]
    exact tasks_done T (by omega) r a0 a1 a2 a3 a4 a5 a6 a7 a8 a9 a10 a11 a12 a13 ha hb

end Go.Proofs.Ytbihinhckmfplaa.Pure
