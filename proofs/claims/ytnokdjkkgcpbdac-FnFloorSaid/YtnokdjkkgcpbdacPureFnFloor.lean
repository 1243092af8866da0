/- The pure statement of FnFloor, over numbers and lists: the floor of drawn tasks never goes back, and is not above any of those that share fairly, if it was not; their spread is what lies between the least and the greatest. Conditions: those of the statement (the drawn bytes lie in memory). -/
import Derived.Test.YtnokdjkkgcpbdacPrintLawsFnFloor
set_option linter.unusedVariables false
set_option linter.unusedSimpArgs false
namespace Go.Proofs.Ytnokdjkkgcpbdac.Pure
open Go.RowKit Go.Proofs.Ytnokdjkkgcpbdac.Print Go.Proofs.YtnokdjkkgcpbdacW.PrintWords Go.Proofs.YtnokdjkkgcpbdacW.PrintLast Go.Proofs.YtnokdjkkgcpbdacW.PrintMore Go.Proofs.Ytnokdjkkgcpbdac.Base

/-! A draw answers, and with what. -/
def En {α : Type} (f : Nat → Option α) (Q : α → Prop) : Prop := ∃ r, Ev f r ∧ Q r
theorem En.bind {α β : Type} {f : Nat → Option α} {P : α → Prop} {g : α → Nat → Option β} {Q : β → Prop} (h : En f P) (hg : ∀ r, P r → En (fun k => g r k) Q) : En (fun k => (f k).bind (fun r => g r k)) Q := by
  obtain ⟨r, e, p⟩ := h
  obtain ⟨s, e2, q⟩ := hg r p
  exact ⟨s, Ev.bind e e2, q⟩
theorem En.now {α : Type} {r : α} {Q : α → Prop} (h : Q r) : En (fun _ => some r) Q := ⟨r, Ev.now r, h⟩
theorem En.ite {α : Type} {c : Prop} [Decidable c] {f g : Nat → Option α} {Q : α → Prop} (h : c → En f Q) (h' : ¬ c → En g Q) : En (fun k => if c then f k else g k) Q := by
  by_cases hc : c
  · obtain ⟨r, e, q⟩ := h hc
    exact ⟨r, evPos hc e, q⟩
  · obtain ⟨r, e, q⟩ := h' hc
    exact ⟨r, evNeg hc e, q⟩
theorem En.of {α : Type} {o : Option α} {P : α → Prop} (h : ∃ r, o = some r ∧ P r) : En (fun _ => o) P := by
  obtain ⟨r, e, p⟩ := h
  exact ⟨r, ⟨0, fun _ _ => e⟩, p⟩
theorem and255 (x : Int) : 0 ≤ Go.bits .and .i64 x 255 ∧ Go.bits .and .i64 x 255 ≤ 255 := by
  have e : Go.bits .and .i64 x 255 = IntKind.i64.wrap (((BitVec.ofInt 64 x) &&& (BitVec.ofInt 64 255)).toNat : Nat) := rfl
  have h : ((BitVec.ofInt 64 x) &&& (BitVec.ofInt 64 255)).toNat ≤ 255 := by rw [BitVec.toNat_and]; exact Nat.and_le_right
  rw [e, IntKind.wrap_i64]
  omega
theorem byte_some (l : List Int) (hl : l.length ≤ maxLen) (i h : Int) (h0 : 0 ≤ i) : ∃ b i' h', spec_l1Byte.f l i h = some (b, i', h') ∧ 0 ≤ b ∧ b ≤ 255 ∧ 0 ≤ i' := by
  unfold maxLen at hl
  unfold spec_l1Byte.f
  by_cases e : i < (l.length : Int)
  · rw [if_pos e, if_pos h0, wr (i + 1) (by omega) (by omega)]
    exact ⟨_, _, _, rfl, (and255 _).1, (and255 _).2, by omega⟩
  · rw [if_neg e]
    exact ⟨_, _, _, rfl, (and255 _).1, (and255 _).2, by omega⟩
theorem below_some (l : List Int) (hl : l.length ≤ maxLen) (i h n : Int) (h0 : 0 ≤ i) : ∃ r i' h', spec_l1Below.f l i h n = some (r, i', h') ∧ 0 ≤ i' ∧ 0 ≤ r ∧ (0 < n → r < n) ∧ (n ≤ 0 → r = 0) := by
  unfold spec_l1Below.f
  by_cases e : n ≤ 0
  · rw [if_pos e]
    exact ⟨_, _, _, rfl, h0, by omega, by omega, by omega⟩
  · rw [if_neg e]
    obtain ⟨b, i1, h1, e1, b0, b1, p1⟩ := byte_some l hl i h h0
    by_cases e2 : n ≤ 256
    · rw [if_pos e2, e1]
      simp only [Option.bind_some]
      rw [if_neg (by omega)]
      have := Int.tmod_nonneg n b0
      have := Int.tmod_lt_of_pos b (show 0 < n by omega)
      exact ⟨_, _, _, rfl, p1, by omega, by omega, by omega⟩
    · rw [if_neg e2, e1]
      simp only [Option.bind_some]
      obtain ⟨c, i2, h2, e3, c0, c1, p2⟩ := byte_some l hl i1 h1 p1
      rw [e3]
      simp only [Option.bind_some]
      obtain ⟨d, i3, h3, e4, d0, d1, p3⟩ := byte_some l hl i2 h2 p2
      rw [e4]
      simp only [Option.bind_some]
      obtain ⟨f, i4, h4, e5, f0, f1, p4⟩ := byte_some l hl i3 h3 p3
      rw [e5]
      simp only [Option.bind_some]
      rw [if_neg (by omega), wr (b * 16777216) (by omega) (by omega), wr (c * 65536) (by omega) (by omega), wr (d * 256) (by omega) (by omega), wr (b * 16777216 + c * 65536) (by omega) (by omega), wr (b * 16777216 + c * 65536 + d * 256) (by omega) (by omega), wr (b * 16777216 + c * 65536 + d * 256 + f) (by omega) (by omega)]
      have := Int.tmod_nonneg n (show 0 ≤ b * 16777216 + c * 65536 + d * 256 + f by omega)
      have := Int.tmod_lt_of_pos (b * 16777216 + c * 65536 + d * 256 + f) (show 0 < n by omega)
      exact ⟨_, _, _, rfl, p4, by omega, by omega, by omega⟩
theorem below_en (l : List Int) (hl : l.length ≤ maxLen) (i h n : Int) (h0 : 0 ≤ i) : En (fun _ => spec_l1Below.f l i h n) (fun r => 0 ≤ r.2.1) := by
  obtain ⟨r, i', h', e, p, _⟩ := below_some l hl i h n h0
  exact En.of ⟨_, e, p⟩
theorem once_some (l : List Int) (hl : l.length ≤ maxLen) (i h n : Int) (h0 : 0 ≤ i) : ∃ b i' h', spec_l1Once.f l i h n = some (b, i', h') ∧ 0 ≤ i' := by
  obtain ⟨r, i', h', e, p, _⟩ := below_some l hl i h n h0
  exact ⟨r == 0, i', h', by unfold spec_l1Once.f; rw [e]; rfl, p⟩
theorem once_en (l : List Int) (hl : l.length ≤ maxLen) (i h n : Int) (h0 : 0 ≤ i) : En (fun _ => spec_l1Once.f l i h n) (fun r => 0 ≤ r.2.1) := by
  obtain ⟨r, i', h', e, p⟩ := once_some l hl i h n h0
  exact En.of ⟨_, e, p⟩
theorem pick_some (l : List Int) (hl : l.length ≤ maxLen) (i h : Int) (xs : List Int) (h0 : 0 ≤ i) (hx : 0 < xs.length) : ∃ r i' h', spec_l1PickInt.f l i h xs = some (r, i', h') ∧ 0 ≤ i' ∧ r ∈ xs := by
  unfold spec_l1PickInt.f
  obtain ⟨r, i1, h1, e, p1, r0, r1, _⟩ := below_some l hl i h (xs.length : Int) h0
  have r1 := r1 (by omega)
  rw [e]
  simp only [Option.bind_some]
  rw [if_pos r0, if_pos r1]
  refine ⟨_, _, _, rfl, p1, ?_⟩
  unfold rd
  rw [List.getD_eq_getElem?_getD, List.getElem?_eq_getElem (by omega), Option.getD_some]
  exact List.getElem_mem _
theorem pick_en (l : List Int) (hl : l.length ≤ maxLen) (i h : Int) (x : Int) (xs : List Int) (h0 : 0 ≤ i) : En (fun _ => spec_l1PickInt.f l i h (x :: xs)) (fun r => 0 ≤ r.2.1) := by
  obtain ⟨r, i', h', e, p, _⟩ := pick_some l hl i h (x :: xs) h0 (by simp)
  exact En.of ⟨_, e, p⟩
theorem drawFl_en (l : List Int) (hl : l.length ≤ maxLen) (i h : Int) (h0 : 0 ≤ i) : En (fun _ => spec_l6DrawFloor.f l i h) (fun r => 0 ≤ r.2.1) := by
  unfold spec_l6DrawFloor.f
  refine En.bind (once_en l hl _ _ _ h0) (fun r hr => ?_)
  refine En.ite (fun _ => ?_) (fun _ => ?_)
  · exact En.bind (pick_en l hl _ _ _ _ hr) (fun s hs => En.now hs)
  · exact En.bind (below_en l hl _ _ _ hr) (fun s hs => En.now hs)
theorem En.step {α : Type} {f g : Nat → Option α} {Q : α → Prop} (h : ∀ k, f (k + 1) = g k) (e : En g Q) : En f Q := by
  obtain ⟨r, e, q⟩ := e
  exact ⟨r, Ev.step h e, q⟩
theorem belowR_en (l : List Int) (hl : l.length ≤ maxLen) (i h n : Int) (h0 : 0 ≤ i) (hn : 0 < n) : En (fun _ => spec_l1Below.f l i h n) (fun r => (0 ≤ r.1 ∧ r.1 < n) ∧ 0 ≤ r.2.1) := by
  obtain ⟨r, i', h', e, p, q, s, _⟩ := below_some l hl i h n h0
  exact En.of ⟨_, e, ⟨q, s hn⟩, p⟩
theorem draw3j_en (l : List Int) (i h : Int) (h0 : 0 ≤ i) (a0 a1 a2 a3 : Int) (a4 : Bool) (a5 a6 a7 a8 a9 a10 a11 a12 a13 : Int) : En (fun k => spec_l3Draw.j0 k l i h a0 a1 a2 a3 a4 a5 a6 a7 a8 a9 a10 a11 a12 a13) (fun r => 0 ≤ r.2.2.2.2.2.2.2.2.2.2.2.2.2.2.1) := by
  refine En.step (fun k => by simp only [spec_l3Draw.j0]; rfl) ?_
  exact En.now h0
theorem drawRight0_en (l : List Int) (hl : l.length ≤ maxLen) (i h : Int) (h0 : 0 ≤ i) (a0 a1 a2 a3 : Int) (a4 : Bool) (a5 a6 a7 a8 a9 a10 a11 a12 a13 : Int) : En (fun k => spec_l3DrawRight.j0 k l i h a0 a1 a2 a3 a4 a5 a6 a7 a8 a9 a10 a11 a12 a13) (fun r => 0 ≤ r.2.2.2.2.2.2.2.2.2.2.2.2.2.2.1) := by
  refine En.step (fun k => by simp only [spec_l3DrawRight.j0]; rfl) ?_
  refine En.bind (once_en l hl _ _ _ h0) (fun r hr => ?_)
  refine En.ite (fun _ => ?_) (fun _ => ?_)
  all_goals
    refine En.bind (once_en l hl _ _ _ hr) (fun s hs => ?_)
    exact En.now hs
theorem sin_eq (a b c : Int) : spec_l1In.f a b c = some (decide (b ≤ a ∧ a ≤ c)) := by
  unfold spec_l1In.f
  by_cases h : a ≥ b
  · rw [if_pos h]; simp [show b ≤ a from h]
  · rw [if_neg h]; simp; omega
theorem snew_some (a0 a1 a2 a3 : Int) (a4 : Bool) (a5 a6 a7 a8 a9 a10 a11 a12 a13 : Int) : ∃ r, spec_l3New.f a0 a1 a2 a3 a4 a5 a6 a7 a8 a9 a10 a11 a12 a13 = some r := by
  unfold spec_l3New.f spec_TaskOk.f
  simp only [Option.bind_some]
  split <;> exact ⟨_, rfl⟩
theorem sshare_eq (q p : Int) : spec_ShareOk.f q p = some (decide (ShareP q p)) := by
  unfold spec_ShareOk.f ShareP
  simp only [sin_eq, Option.bind_some, decide_eq_true_eq]
  by_cases h : 1 ≤ p ∧ p ≤ 40
  · simp only [h, and_self, if_true, true_and]
  · simp only [h, if_false, false_and, decide_false]
theorem snewDue_some (no cpu q p now : Int) : ∃ r, spec_NewDue.f no cpu q p now = some r := by
  unfold spec_NewDue.f
  obtain ⟨r, hr⟩ := snew_some no 1 cpu 1 false q p q (wrap64 (now + p)) 0 0 0 0 0
  simp only [sin_eq, sshare_eq, hr, Option.bind_some]
  repeat' split
  all_goals exact ⟨_, rfl⟩
theorem snewFair_some (no cpu nice v : Int) : ∃ r, spec_NewFair.f no cpu nice v = some r := by
  unfold spec_NewFair.f
  obtain ⟨r, hr⟩ := snew_some no 3 cpu 1 false 0 0 0 0 0 0 0 nice v
  simp only [hr, Option.bind_some]
  exact ⟨_, rfl⟩
theorem snewFixed_some (no cpu prio round seq : Int) : ∃ r, spec_NewFixed.f no cpu prio round seq = some r := by
  unfold spec_NewFixed.f
  obtain ⟨r, hr⟩ := snew_some no 2 cpu 1 false 0 0 round 0 prio round seq 0 0
  simp only [hr, Option.bind_some]
  exact ⟨_, rfl⟩
theorem some_en {α : Type} {o : Option α} (h : ∃ r, o = some r) : En (fun _ => o) (fun _ => True) := by
  obtain ⟨r, e⟩ := h
  exact En.of ⟨r, e, trivial⟩
theorem drawRight_en (l : List Int) (hl : l.length ≤ maxLen) (i h : Int) (h0 : 0 ≤ i) : En (fun k => spec_l3DrawRight.f k l i h) (fun r => 0 ≤ r.2.2.2.2.2.2.2.2.2.2.2.2.2.2.1) := by
  unfold spec_l3DrawRight.f
  refine En.bind (below_en l hl _ _ _ h0) (fun r1 h1 => ?_)
  refine En.bind (below_en l hl _ _ _ h1) (fun r2 h2 => ?_)
  refine En.bind (below_en l hl _ _ _ h2) (fun r3 h3 => ?_)
  refine En.ite (fun _ => ?_) (fun _ => En.ite (fun _ => ?_) (fun _ => ?_))
  · refine En.bind (below_en l hl _ _ _ h3) (fun r4 h4 => ?_)
    refine En.bind (below_en l hl _ _ _ h4) (fun r5 h5 => ?_)
    refine En.bind (below_en l hl _ _ _ h5) (fun r6 h6 => ?_)
    refine En.bind (some_en (snewDue_some _ _ _ _ _)) (fun r7 _ => ?_)
    refine En.bind (below_en l hl _ _ _ h6) (fun r8 h8 => ?_)
    exact drawRight0_en l hl _ _ h8 _ _ _ _ _ _ _ _ _ _ _ _ _ _
  · refine En.bind (below_en l hl _ _ _ h3) (fun r4 h4 => ?_)
    refine En.bind (below_en l hl _ _ _ h4) (fun r5 h5 => ?_)
    refine En.bind (below_en l hl _ _ _ h5) (fun r6 h6 => ?_)
    refine En.bind (some_en (snewFixed_some _ _ _ _ _)) (fun r7 _ => ?_)
    refine En.ite (fun _ => ?_) (fun _ => ?_)
    · refine En.bind (below_en l hl _ _ _ h6) (fun r8 h8 => ?_)
      exact drawRight0_en l hl _ _ h8 _ _ _ _ _ _ _ _ _ _ _ _ _ _
    · exact drawRight0_en l hl _ _ h6 _ _ _ _ _ _ _ _ _ _ _ _ _ _
  · refine En.bind (below_en l hl _ _ _ h3) (fun r4 h4 => ?_)
    refine En.bind (below_en l hl _ _ _ h4) (fun r5 h5 => ?_)
    refine En.bind (some_en (snewFair_some _ _ _ _)) (fun r7 _ => ?_)
    exact drawRight0_en l hl _ _ h5 _ _ _ _ _ _ _ _ _ _ _ _ _ _
theorem draw3_en (l : List Int) (hl : l.length ≤ maxLen) (i h : Int) (h0 : 0 ≤ i) : En (fun k => spec_l3Draw.f k l i h) (fun r => 0 ≤ r.2.2.2.2.2.2.2.2.2.2.2.2.2.2.1) := by
  unfold spec_l3Draw.f
  refine En.bind (drawRight_en l hl i h h0) (fun r1 h1 => ?_)
  refine En.bind (below_en l hl _ _ _ h1) (fun r2 h2 => ?_)
  refine En.ite (fun _ => En.bind (pick_en l hl _ _ _ _ h2) (fun r3 h3 => draw3j_en l _ _ h3 _ _ _ _ _ _ _ _ _ _ _ _ _ _)) (fun _ => ?_)
  refine En.ite (fun _ => En.bind (pick_en l hl _ _ _ _ h2) (fun r3 h3 => draw3j_en l _ _ h3 _ _ _ _ _ _ _ _ _ _ _ _ _ _)) (fun _ => ?_)
  refine En.ite (fun _ => En.bind (below_en l hl _ _ _ h2) (fun r3 h3 => draw3j_en l _ _ h3 _ _ _ _ _ _ _ _ _ _ _ _ _ _)) (fun _ => ?_)
  refine En.ite (fun _ => En.bind (below_en l hl _ _ _ h2) (fun r3 h3 => draw3j_en l _ _ h3 _ _ _ _ _ _ _ _ _ _ _ _ _ _)) (fun _ => ?_)
  refine En.ite (fun _ => En.bind (below_en l hl _ _ _ h2) (fun r3 h3 => draw3j_en l _ _ h3 _ _ _ _ _ _ _ _ _ _ _ _ _ _)) (fun _ => ?_)
  refine En.ite (fun _ => En.bind (pick_en l hl _ _ _ _ h2) (fun r3 h3 => draw3j_en l _ _ h3 _ _ _ _ _ _ _ _ _ _ _ _ _ _)) (fun _ => ?_)
  refine En.ite (fun _ => En.bind (pick_en l hl _ _ _ _ h2) (fun r3 h3 => draw3j_en l _ _ h3 _ _ _ _ _ _ _ _ _ _ _ _ _ _)) (fun _ => ?_)
  refine En.ite (fun _ => En.bind (below_en l hl _ _ _ h2) (fun r3 h3 => draw3j_en l _ _ h3 _ _ _ _ _ _ _ _ _ _ _ _ _ _)) (fun _ => ?_)
  exact draw3j_en l _ _ h2 _ _ _ _ _ _ _ _ _ _ _ _ _ _
/-! Lists of tasks: what is read of them. -/
theorem rdT (l : List S25) (i : Nat) (h : i < l.length) : rd_T25 l (i : Int) = l[i] := by
  unfold rd_T25
  rw [Int.toNat_natCast, List.getD_eq_getElem?_getD, List.getElem?_eq_getElem h, Option.getD_some]
def tOk (t : S25) : Prop := TaskP t.f0 t.f1 t.f2 t.f3 t.f5 t.f6 t.f7 t.f8 t.f9 t.f10 t.f11 t.f12 t.f13
instance (t : S25) : Decidable (tOk t) := by unfold tOk; infer_instance
/-- What makes a list of tasks right from place i on. -/
def tsFrom (l : List S25) (i : Nat) : Prop := (∀ j, i ≤ j → ∀ h : j < l.length, tOk l[j] ∧ (0 < j → (l[j - 1]).f0 < (l[j]).f0)) ∧ l.length ≤ 12
noncomputable instance (l : List S25) (i : Nat) : Decidable (tsFrom l i) := Classical.propDecidable _
theorem tsFrom_end (l : List S25) (i : Nat) (h : ¬ i < l.length) : tsFrom l i ↔ l.length ≤ 12 := ⟨fun x => x.2, fun x => ⟨fun j hj hl => absurd hl (by omega), x⟩⟩
theorem tsFrom_step (l : List S25) (i : Nat) (h : i < l.length) : tsFrom l i ↔ (tOk l[i] ∧ (0 < i → (l[i - 1]).f0 < (l[i]).f0)) ∧ tsFrom l (i + 1) := by
  constructor
  · intro x
    exact ⟨x.1 i (Nat.le_refl _) h, fun j hj hl => x.1 j (by omega) hl, x.2⟩
  · intro x
    refine ⟨fun j hj hl => ?_, x.2.2⟩
    by_cases e : j = i
    · subst e
      exact x.1
    · exact x.2.1 j (by omega) hl
theorem sTasksOk_loop (l : List S25) (hl : l.length ≤ 1048576000) : ∀ (k i : Nat), l.length - i < k → spec_TasksOk.l0 k l (i : Int) = some (decide (tsFrom l i)) := by
  intro k
  induction k with
  | zero => intro i h; omega
  | succ k ih =>
    intro i h
    simp only [spec_TasksOk.l0, spec_TaskOk.f, Option.bind_some]
    by_cases hi : i < l.length
    · rw [if_pos (by omega), if_pos (by omega), rdT l i hi, wr ((i : Int) + 1) (by omega) (by omega)]
      have es := tsFrom_step l i hi
      by_cases ht : tOk l[i]
      · rw [show decide (TaskP (l[i]).f0 (l[i]).f1 (l[i]).f2 (l[i]).f3 (l[i]).f5 (l[i]).f6 (l[i]).f7 (l[i]).f8 (l[i]).f9 (l[i]).f10 (l[i]).f11 (l[i]).f12 (l[i]).f13) = true from decide_eq_true ht, if_pos rfl]
        have en := ih (i + 1) (by omega)
        by_cases h0 : 0 < i
        · rw [if_pos (by omega), wr ((i : Int) - 1) (by omega) (by omega), if_pos (by omega), if_pos (by omega), show (i : Int) - 1 = ((i - 1 : Nat) : Int) by omega, rdT l (i - 1) (by omega)]
          by_cases hc : (l[i - 1]).f0 ≥ (l[i]).f0
          · rw [if_pos hc]
            exact congrArg some (decide_eq_false fun x => by have := (es.1 x).1.2 h0; omega).symm
          · rw [if_neg hc]
            refine en.trans (congrArg some (decide_eq_decide.2 ?_))
            exact ⟨fun x => es.2 ⟨⟨ht, fun _ => by omega⟩, x⟩, fun x => (es.1 x).2⟩
        · rw [if_neg (by omega)]
          refine en.trans (congrArg some (decide_eq_decide.2 ?_))
          exact ⟨fun x => es.2 ⟨⟨ht, fun z => absurd z h0⟩, x⟩, fun x => (es.1 x).2⟩
      · rw [show decide (TaskP (l[i]).f0 (l[i]).f1 (l[i]).f2 (l[i]).f3 (l[i]).f5 (l[i]).f6 (l[i]).f7 (l[i]).f8 (l[i]).f9 (l[i]).f10 (l[i]).f11 (l[i]).f12 (l[i]).f13) = false from decide_eq_false ht, if_neg (by decide)]
        exact congrArg some (decide_eq_false fun x => ht (es.1 x).1.1).symm
    · rw [if_neg (by omega)]
      refine congrArg some (decide_eq_decide.2 ?_)
      rw [tsFrom_end l i hi]
      omega
theorem sTasksOk_ev (l : List S25) (hl : l.length ≤ 1048576000) : Ev (fun k => spec_TasksOk.f k l) (decide (tsFrom l 0)) := by
  refine Ev.of (fun k => spec_TasksOk.mono l k) (k := l.length + 1) ?_
  unfold spec_TasksOk.f
  exact sTasksOk_loop l hl (l.length + 1) 0 (by omega)
theorem sTasksOk_en (l : List S25) (hl : l.length ≤ 1048576000) : En (fun k => spec_TasksOk.f k l) (fun _ => True) := ⟨_, sTasksOk_ev l hl, trivial⟩
theorem taskPut_end (l x6 : List S25) (hl : l.length ≤ 1000) (h6 : x6.length ≤ l.length + 1) : En (fun k => (spec_TasksOk.f k x6).bind fun t => (if t = true then (some (x6, true)) else ((some (([] : List (S25)) : List (S25))).bind fun y => (if y.length + l.length < 1256584717458 then (some ((y ++ l), false)) else (none))))) (fun r => r.1.length ≤ l.length + 1) := by
  refine En.bind (sTasksOk_en x6 (by omega)) (fun t _ => ?_)
  refine En.ite (fun _ => En.now h6) (fun _ => ?_)
  simp only [Option.bind_some]
  refine En.ite (fun _ => En.now ?_) (fun h => absurd (by simp only [List.length_nil]; omega) h)
  simp only [List.nil_append]
  omega
theorem taskPut_loop (l : List S25) (hl : l.length ≤ 1000) : ∀ (d i : Nat) (x6 : List S25) (x7 : Bool) (a0 a1 a2 a3 : Int) (a4 : Bool) (a5 a6 a7 a8 a9 a10 a11 a12 a13 : Int), l.length - i = d → i ≤ l.length → x6.length ≤ i + x7.toNat → En (fun k => spec_TaskPut.l0 k l x6 x7 (i : Int) a0 a1 a2 a3 a4 a5 a6 a7 a8 a9 a10 a11 a12 a13) (fun r => r.1.length ≤ l.length + 1) := by
  intro d
  induction d with
  | zero =>
    intro i x6 x7 a0 a1 a2 a3 a4 a5 a6 a7 a8 a9 a10 a11 a12 a13 hd hi hx
    refine En.step (fun k => by simp only [spec_TaskPut.l0]; rfl) ?_
    refine En.ite (fun h => absurd h (by omega)) (fun _ => ?_)
    cases x7 with
    | true =>
      simp only [Bool.toNat_true] at hx
      exact En.ite (fun _ => taskPut_end l x6 hl (by omega)) (fun h => absurd rfl h)
    | false =>
      simp only [Bool.toNat_false] at hx
      refine En.ite (fun h => absurd h (by decide)) (fun _ => ?_)
      refine En.ite (fun _ => ?_) (fun h => absurd (by omega) h)
      simp only [Option.bind_some]
      exact taskPut_end l _ hl (by rw [List.length_append, List.length_singleton]; omega)
  | succ d ih =>
    intro i x6 x7 a0 a1 a2 a3 a4 a5 a6 a7 a8 a9 a10 a11 a12 a13 hd hi hx
    refine En.step (fun k => by simp only [spec_TaskPut.l0]; rfl) ?_
    refine En.ite (fun _ => ?_) (fun h => absurd (by omega) h)
    have e : wrap64 ((i : Int) + 1) = ((i + 1 : Nat) : Int) := by rw [wr _ (by omega) (by omega)]; omega
    cases x7 with
    | true =>
      simp only [Bool.toNat_true] at hx
      refine En.ite (fun _ => ?_) (fun h => absurd rfl h)
      refine En.ite (fun _ => ?_) (fun h => absurd (by omega) h)
      refine En.ite (fun _ => ?_) (fun h => absurd (by omega) h)
      rw [e]
      exact ih (i + 1) _ true a0 a1 a2 a3 a4 a5 a6 a7 a8 a9 a10 a11 a12 a13 (by omega) (by omega) (by rw [List.length_append, List.length_singleton, Bool.toNat_true]; omega)
    | false =>
      simp only [Bool.toNat_false] at hx
      refine En.ite (fun h => absurd h (by decide)) (fun _ => ?_)
      refine En.ite (fun _ => ?_) (fun h => absurd (by omega) h)
      refine En.ite (fun _ => ?_) (fun _ => ?_)
      · refine En.ite (fun _ => ?_) (fun h => absurd (by omega) h)
        simp only [Option.bind_some]
        refine En.ite (fun _ => ?_) (fun h => absurd (by rw [List.length_append, List.length_singleton]; omega) h)
        rw [e]
        exact ih (i + 1) _ true a0 a1 a2 a3 a4 a5 a6 a7 a8 a9 a10 a11 a12 a13 (by omega) (by omega) (by rw [List.length_append, List.length_append, List.length_singleton, List.length_singleton, Bool.toNat_true]; omega)
      · refine En.ite (fun _ => ?_) (fun h => absurd (by omega) h)
        rw [e]
        exact ih (i + 1) _ false a0 a1 a2 a3 a4 a5 a6 a7 a8 a9 a10 a11 a12 a13 (by omega) (by omega) (by rw [List.length_append, List.length_singleton, Bool.toNat_false]; omega)
theorem taskPut_en (l : List S25) (hl : l.length ≤ 1000) (a0 a1 a2 a3 : Int) (a4 : Bool) (a5 a6 a7 a8 a9 a10 a11 a12 a13 : Int) : En (fun k => spec_TaskPut.f k l a0 a1 a2 a3 a4 a5 a6 a7 a8 a9 a10 a11 a12 a13) (fun r => r.1.length ≤ l.length + 1) := by
  unfold spec_TaskPut.f
  refine En.bind (sTasksOk_en l (by omega)) (fun t _ => ?_)
  refine En.ite (fun _ => taskPut_loop l hl l.length 0 [] false a0 a1 a2 a3 a4 a5 a6 a7 a8 a9 a10 a11 a12 a13 (by omega) (by omega) (by simp)) (fun _ => En.now (by simp))
theorem drawList_loop (l : List Int) (hl : l.length ≤ maxLen) (m : Nat) (hm : m ≤ 30) : ∀ (d x : Nat) (i h : Int) (y : List S25), m - x = d → x ≤ m → y.length ≤ x → 0 ≤ i → En (fun k => spec_l3DrawList.l0 k y (m : Int) (x : Int) l i h) (fun r => r.1.length ≤ 31 ∧ 0 ≤ r.2.1) := by
  intro d
  induction d with
  | zero =>
    intro x i h y hd hx hy h0
    refine En.step (fun k => by simp only [spec_l3DrawList.l0]; rfl) ?_
    refine En.ite (fun h => absurd h (by omega)) (fun _ => ?_)
    refine En.bind (once_en l hl _ _ _ h0) (fun r hr => ?_)
    refine En.ite (fun _ => ?_) (fun _ => En.now ⟨show y.length ≤ 31 by omega, hr⟩)
    refine En.bind (draw3_en l hl _ _ hr) (fun s hs => ?_)
    refine En.ite (fun _ => En.now ⟨?_, hs⟩) (fun h => absurd (by omega) h)
    rw [List.length_append, List.length_singleton]
    omega
  | succ d ih =>
    intro x i h y hd hx hy h0
    refine En.step (fun k => by simp only [spec_l3DrawList.l0]; rfl) ?_
    refine En.ite (fun _ => ?_) (fun h => absurd (by omega) h)
    have e : wrap64 ((x : Int) + 1) = ((x + 1 : Nat) : Int) := by rw [wr _ (by omega) (by omega)]; omega
    refine En.bind (drawRight_en l hl _ _ h0) (fun r hr => ?_)
    refine En.bind (taskPut_en y (by omega) _ _ _ _ _ _ _ _ _ _ _ _ _ _) (fun s hs => ?_)
    rw [e]
    exact En.ite (fun _ => ih (x + 1) _ _ _ (by omega) (by omega) (by omega) hr) (fun _ => ih (x + 1) _ _ _ (by omega) (by omega) (by omega) hr)
theorem drawList_en (l : List Int) (hl : l.length ≤ maxLen) (i h : Int) (h0 : 0 ≤ i) : En (fun k => spec_l3DrawList.f k l i h) (fun r => r.1.length ≤ 31 ∧ 0 ≤ r.2.1) := by
  unfold spec_l3DrawList.f
  simp only [Option.bind_some]
  refine En.bind (belowR_en l hl _ _ _ h0 (by decide)) (fun r hr => ?_)
  refine En.bind (once_en l hl _ _ _ hr.2) (fun s hs => ?_)
  refine En.ite (fun _ => ?_) (fun _ => ?_)
  · refine En.step (fun k => by simp only [spec_l3DrawList.j0]; rfl) ?_
    exact drawList_loop l hl 30 (by omega) 30 0 _ _ [] (by omega) (by omega) (by simp) hs
  · refine En.step (fun k => by simp only [spec_l3DrawList.j0]; rfl) ?_
    have := drawList_loop l hl r.1.toNat (by omega) r.1.toNat 0 s.2.1 s.2.2 [] (by omega) (by omega) (by simp) hs
    rw [show ((r.1.toNat : Nat) : Int) = r.1 by omega] at this
    exact this
/-! The cursor over the drawn bytes: whatever it holds, a draw answers. -/
theorem new_loop (l : List Int) (hl : l.length ≤ maxLen) (d : Nat) : ∀ (k : Nat) (h i : Int), 0 ≤ i → (l.length : Int) - i ≤ d → d < k → ∃ h', spec_l1New.l0 k l h i = some (l, 0, h') := by
  unfold maxLen at hl
  induction d with
  | zero =>
    intro k h i h0 hd hk
    obtain ⟨k, rfl⟩ : ∃ m, k = m + 1 := ⟨k - 1, by omega⟩
    exact ⟨h, by simp only [spec_l1New.l0]; rw [if_neg (by omega)]⟩
  | succ d ih =>
    intro k h i h0 hd hk
    obtain ⟨k, rfl⟩ : ∃ m, k = m + 1 := ⟨k - 1, by omega⟩
    simp only [spec_l1New.l0]
    by_cases e : i < (l.length : Int)
    · rw [if_pos e]
      by_cases e2 : i < 4000
      · rw [if_pos e2, if_pos h0, wr (i + 1) (by omega) (by omega)]
        exact ih k _ _ (by omega) (by omega) (by omega)
      · rw [if_neg e2]
        exact ⟨_, rfl⟩
    · rw [if_neg e]
      exact ⟨_, rfl⟩
theorem new_ev (l : List Int) (hl : l.length ≤ maxLen) : ∃ h, Ev (fun k => spec_l1New.f k l) (l, 0, h) := by
  obtain ⟨h, e⟩ := new_loop l hl l.length (l.length + 1) (wrap64 (18511 + (l.length : Int))) 0 (by omega) (by omega) (by omega)
  exact ⟨h, Ev.of (fun k => spec_l1New.mono l k) e⟩
theorem new_en (l : List Int) (hl : l.length ≤ maxLen) : En (fun k => spec_l1New.f k l) (fun r => r.1 = l ∧ 0 ≤ r.2.1) := by
  obtain ⟨h, e⟩ := new_ev l hl
  exact ⟨_, e, rfl, Int.le_refl _⟩
theorem drawFairFloor_en (l : List Int) (hl : l.length ≤ maxLen) : En (fun k => spec_DrawFairFloor.f k l) (fun r => r.1.length ≤ 31) := by
  unfold spec_DrawFairFloor.f
  refine En.bind (new_en l hl) (fun r hr => ?_)
  rw [hr.1]
  refine En.bind (drawList_en l hl _ _ hr.2) (fun s hs => ?_)
  exact En.bind (drawFl_en l hl _ _ hs.2) (fun s _ => En.now hs.1)
/-! The least and the greatest V of the fair tasks. -/
def fairT (t : S25) : Prop := tOk t ∧ t.f1 = 3
instance (t : S25) : Decidable (fairT t) := by unfold fairT; infer_instance
/-- The least and the greatest so far; -1, -1 where there was none. -/
def endsOf : List S25 → Int × Int → Int × Int
  | [], p => p
  | t :: r, p => endsOf r (if fairT t then (if p.1 < 0 then t.f13 else if t.f13 < p.1 then t.f13 else p.1, if p.2 > t.f13 then p.2 else t.f13) else p)
theorem fairT_v (t : S25) (h : fairT t) : 0 ≤ t.f13 ∧ t.f13 ≤ 100000000 := by
  have := h.1
  unfold tOk TaskP at this
  have := h.2
  omega
theorem endsOf_low : ∀ (l : List S25) (a b : Int), 0 ≤ a → a ≤ b → b ≤ 100000000 → (0 ≤ (endsOf l (a, b)).1 ∧ (endsOf l (a, b)).1 ≤ a ∧ (endsOf l (a, b)).1 ≤ (endsOf l (a, b)).2 ∧ (endsOf l (a, b)).2 ≤ 100000000) ∧ ∀ t ∈ l, fairT t → (endsOf l (a, b)).1 ≤ t.f13 := by
  intro l
  induction l with
  | nil => intro a b h0 h1 h2; exact ⟨⟨h0, Int.le_refl _, h1, h2⟩, fun t ht => absurd ht (by simp)⟩
  | cons x r ih =>
    intro a b h0 h1 h2
    rw [endsOf]
    by_cases hx : fairT x
    · have hv := fairT_v x hx
      rw [if_pos hx]
      simp only [if_neg (show ¬ a < 0 by omega)]
      obtain ⟨⟨p1, p2, p3, p4⟩, p5⟩ := ih (if x.f13 < a then x.f13 else a) (if b > x.f13 then b else x.f13) (by split <;> omega) (by split <;> split <;> omega) (by split <;> omega)
      have ha : (if x.f13 < a then x.f13 else a) ≤ a ∧ (if x.f13 < a then x.f13 else a) ≤ x.f13 := by split <;> omega
      refine ⟨⟨p1, Int.le_trans p2 ha.1, p3, p4⟩, ?_⟩
      intro t ht hf
      rcases List.mem_cons.1 ht with rfl | ht
      · exact Int.le_trans p2 ha.2
      · exact p5 t ht hf
    · rw [if_neg hx]
      obtain ⟨p, p5⟩ := ih a b h0 h1 h2
      refine ⟨p, fun t ht hf => ?_⟩
      rcases List.mem_cons.1 ht with rfl | ht
      · exact absurd hf hx
      · exact p5 t ht hf
theorem endsOf_all : ∀ (l : List S25), ((endsOf l (-1, -1)).1 = -1 ∧ (endsOf l (-1, -1)).2 = -1) ∨ ((0 ≤ (endsOf l (-1, -1)).1 ∧ (endsOf l (-1, -1)).1 ≤ (endsOf l (-1, -1)).2 ∧ (endsOf l (-1, -1)).2 ≤ 100000000) ∧ ∀ t ∈ l, fairT t → (endsOf l (-1, -1)).1 ≤ t.f13) := by
  intro l
  induction l with
  | nil => exact .inl ⟨rfl, rfl⟩
  | cons x r ih =>
    rw [endsOf]
    by_cases hx : fairT x
    · have hv := fairT_v x hx
      rw [if_pos hx]
      simp only [if_pos (show (-1 : Int) < 0 by omega), if_neg (show ¬ (-1 : Int) > x.f13 by omega)]
      obtain ⟨⟨p1, p2, p3, p4⟩, p5⟩ := endsOf_low r x.f13 x.f13 (by omega) (by omega) (by omega)
      refine .inr ⟨⟨p1, p3, p4⟩, fun t ht hf => ?_⟩
      rcases List.mem_cons.1 ht with rfl | ht
      · exact p2
      · exact p5 t ht hf
    · rw [if_neg hx]
      rcases ih with h | ⟨h, g⟩
      · exact .inl h
      · refine .inr ⟨h, fun t ht hf => ?_⟩
        rcases List.mem_cons.1 ht with rfl | ht
        · exact absurd hf hx
        · exact g t ht hf
theorem floor_loop (l : List S25) (hl : l.length ≤ 1000) (fl F : Int) : ∀ (d i : Nat) (low : Int), l.length - i = d → i ≤ l.length → (F = fl ∨ (low = F ∧ ∀ t ∈ l, fairT t → F ≤ t.f13)) → Ev (fun k => laws_FnFloor.l0 k l fl F low (i : Int)) true := by
  intro d
  induction d with
  | zero =>
    intro i low hd hi hc
    refine Ev.step (fun k => by simp only [laws_FnFloor.l0]; rfl) ?_
    refine evNeg (by omega) ?_
    by_cases h : low = F
    · exact evPos h (Ev.now _)
    · refine evNeg h (evEq _ (fun _ => rfl) (congrArg some ?_))
      rcases hc with h1 | h1
      · simp [h1]
      · exact absurd h1.1 h
  | succ d ih =>
    intro i low hd hi hc
    have hi2 : i < l.length := by omega
    have e : wrap64 ((i : Int) + 1) = ((i + 1 : Nat) : Int) := by rw [wr _ (by omega) (by omega)]; omega
    refine Ev.step (fun k => by simp only [laws_FnFloor.l0]; rfl) ?_
    refine evPos (by omega) (evPos (by omega) ?_)
    rw [rdT l i hi2]
    simp only [spec_TaskOk.f, Option.bind_some]
    have jump : Ev (fun k => laws_FnFloor.j2 k l fl F low (i : Int) true) true := by
      refine Ev.step (fun k => by simp only [laws_FnFloor.j2]; rfl) ?_
      refine evPos trivial ?_
      rw [e]
      exact ih (i + 1) low (by omega) (by omega) hc
    by_cases ht : tOk l[i]
    · refine evPos (decide_eq_true ht) ?_
      by_cases h3 : (l[i]).f1 = 3
      · rw [show ((l[i]).f1 != 3) = false by simp [h3]]
        refine Ev.step (fun k => by simp only [laws_FnFloor.j2]; rfl) ?_
        refine evNeg (by decide) (evPos (by omega) (evPos (by omega) ?_))
        rw [rdT l i hi2, e]
        have hf : fairT l[i] := ⟨ht, h3⟩
        by_cases hv : (l[i]).f13 < low
        · refine evPos hv (ih (i + 1) _ (by omega) (by omega) ?_)
          rcases hc with h | ⟨h, g⟩
          · exact .inl h
          · have := g _ (List.getElem_mem hi2) hf
            omega
        · exact evNeg hv (ih (i + 1) low (by omega) (by omega) hc)
      · rw [show ((l[i]).f1 != 3) = true by simp [h3]]
        exact jump
    · exact evNeg (by rw [decide_eq_true_eq]; exact ht) jump
/-- What the program keeps: least, greatest, and whether there was one; beside the reference's pair. -/
def Same (p : Int × Int) (q : Int × Int × Bool) : Prop := (q.2.2 = false ∧ q.1 = 0 ∧ q.2.1 = 0 ∧ p = (-1, -1)) ∨ (q.2.2 = true ∧ p = (q.1, q.2.1) ∧ 0 ≤ q.1 ∧ q.1 ≤ q.2.1 ∧ q.2.1 ≤ 100000000)
theorem isFair_eq (a0 a1 a2 a3 : Int) (a4 : Bool) (a5 a6 a7 a8 a9 a10 a11 a12 a13 : Int) : impl_isFair.f a0 a1 a2 a3 a4 a5 a6 a7 a8 a9 a10 a11 a12 a13 = some (decide (TaskP a0 a1 a2 a3 a5 a6 a7 a8 a9 a10 a11 a12 a13 ∧ a1 = 3)) := by
  unfold impl_isFair.f impl_TaskOk.f
  by_cases h : a1 = 3
  · rw [if_pos h]
    simp [h]
  · rw [if_neg h]
    simp [h]
theorem isFairT (t : S25) : impl_isFair.f t.f0 t.f1 t.f2 t.f3 t.f4 t.f5 t.f6 t.f7 t.f8 t.f9 t.f10 t.f11 t.f12 t.f13 = some (decide (fairT t)) := isFair_eq t.f0 t.f1 t.f2 t.f3 t.f4 t.f5 t.f6 t.f7 t.f8 t.f9 t.f10 t.f11 t.f12 t.f13
theorem iEnds_loop (l : List S25) (hl : l.length ≤ 1048576000) : ∀ (k i : Nat) (a b : Int) (s : Bool) (p : Int × Int), l.length - i < k → Same p (a, b, s) → ∃ q, impl_ends.l0 k a b s l (l.length : Int) (i : Int) = some q ∧ Same (endsOf (l.drop i) p) q := by
  intro k
  induction k with
  | zero => intro i a b s p h; omega
  | succ k ih =>
    intro i a b s p h hs
    simp only [impl_ends.l0]
    by_cases hi : i < l.length
    · rw [if_pos (by omega), if_pos (by omega), if_pos (by omega), rdT l i hi, wr ((i : Int) + 1) (by omega) (by omega), List.drop_eq_getElem_cons hi, endsOf, isFairT, Option.bind_some]
      have en := fun a b s p => ih (i + 1) a b s p (by omega)
      by_cases ht : fairT l[i]
      · rw [if_pos (decide_eq_true ht), if_pos ht]
        have hv := fairT_v _ ht
        generalize hx : (l[i]).f13 = v at hv
        cases s with
        | true =>
          rw [if_pos rfl]
          refine en _ _ _ _ (.inr ⟨rfl, ?_⟩)
          obtain ⟨h1, _⟩ | ⟨_, h2, h3, h4, h5⟩ := hs
          · cases h1
          · subst h2
            simp only at h3 h4 h5 ⊢
            unfold mn mx
            refine ⟨Prod.ext ?_ ?_, ?_, ?_, ?_⟩
            · simp only
              rw [if_neg (by omega : ¬ a < 0)]
            · simp only
              split <;> split <;> omega
            · split <;> omega
            · split <;> split <;> omega
            · split <;> omega
        | false =>
          rw [if_neg (by decide)]
          refine en _ _ _ _ (.inr ⟨rfl, ?_⟩)
          obtain ⟨_, _, _, h2⟩ | ⟨h1, _⟩ := hs
          · subst h2
            refine ⟨Prod.ext ?_ ?_, ?_, ?_, ?_⟩
            · simp only
              rw [if_pos (by omega)]
            · simp only
              rw [if_neg (by omega)]
            all_goals (simp only; omega)
          · cases h1
      · rw [if_neg (by rw [decide_eq_true_eq]; exact ht), if_neg ht]
        exact en _ _ _ _ hs
    · rw [if_neg (by omega), List.drop_eq_nil_of_le (by omega), endsOf]
      exact ⟨_, rfl, hs⟩
theorem iEnds_ev (l : List S25) (hl : l.length ≤ 1048576000) : ∃ q, Ev (fun k => impl_ends.f k l) q ∧ Same (endsOf l (-1, -1)) q := by
  obtain ⟨q, h, hs⟩ := iEnds_loop l hl (l.length + 1) 0 0 0 false (-1, -1) (by omega) (.inl ⟨rfl, rfl, rfl, rfl⟩)
  exact ⟨q, Ev.of (fun k => impl_ends.mono l k) (k := l.length + 1) h, hs⟩
theorem iFloor_ev (l : List S25) (hl : l.length ≤ 1048576000) (fl : Int) : Ev (fun k => impl_FairFloor.f k l fl) (if (endsOf l (-1, -1)).1 < 0 then fl else if fl > (endsOf l (-1, -1)).1 then fl else (endsOf l (-1, -1)).1) := by
  obtain ⟨q, hq, hs⟩ := iEnds_ev l hl
  unfold impl_FairFloor.f
  refine Ev.bind hq ?_
  obtain ⟨h1, _, _, h2⟩ | ⟨h1, h2, h3, h4, h5⟩ := hs
  · rw [h2]
    simp only [h1]
    exact evNeg (by decide) (evEq _ (fun _ => rfl) rfl)
  · rw [h2]
    simp only [h1]
    refine evPos trivial (evEq _ (fun _ => rfl) (congrArg some ?_))
    rw [if_neg (by omega)]
    unfold mx
    split <;> split <;> omega
theorem iSpread_ev (l : List S25) (hl : l.length ≤ 1048576000) : Ev (fun k => impl_FairSpread.f k l) (wrap64 ((endsOf l (-1, -1)).2 - (endsOf l (-1, -1)).1)) := by
  obtain ⟨q, hq, hs⟩ := iEnds_ev l hl
  unfold impl_FairSpread.f
  refine Ev.bind hq (evEq _ (fun _ => rfl) (congrArg some ?_))
  obtain ⟨h1, h2, h3, h4⟩ | ⟨h1, h2, h3, h4, h5⟩ := hs
  · rw [h4, h2, h3]
    rfl
  · rw [h2]
theorem sisFair_eq (a0 a1 a2 a3 : Int) (a4 : Bool) (a5 a6 a7 a8 a9 a10 a11 a12 a13 : Int) : spec_l6Fair.f a0 a1 a2 a3 a4 a5 a6 a7 a8 a9 a10 a11 a12 a13 = some (decide (TaskP a0 a1 a2 a3 a5 a6 a7 a8 a9 a10 a11 a12 a13 ∧ a1 = 3)) := by
  unfold spec_l6Fair.f spec_TaskOk.f
  simp only [Option.bind_some, decide_eq_true_eq]
  by_cases h : TaskP a0 a1 a2 a3 a5 a6 a7 a8 a9 a10 a11 a12 a13
  · simp [h, dBeq]
  · simp [h]
theorem sisFairT (t : S25) : spec_l6Fair.f t.f0 t.f1 t.f2 t.f3 t.f4 t.f5 t.f6 t.f7 t.f8 t.f9 t.f10 t.f11 t.f12 t.f13 = some (decide (fairT t)) := sisFair_eq t.f0 t.f1 t.f2 t.f3 t.f4 t.f5 t.f6 t.f7 t.f8 t.f9 t.f10 t.f11 t.f12 t.f13
theorem smax_eq (a b : Int) : spec_l1Max.f a b = some (if a > b then a else b) := by
  unfold spec_l1Max.f
  split <;> rfl
theorem sFloor_loop (l : List S25) (fl : Int) (hl : l.length ≤ 1048576000) : ∀ (k i : Nat) (a b : Int), l.length - i < k → spec_FairFloor.l0 k l fl a (i : Int) = some (if (endsOf (l.drop i) (a, b)).1 < 0 then fl else if fl > (endsOf (l.drop i) (a, b)).1 then fl else (endsOf (l.drop i) (a, b)).1) := by
  intro k
  induction k with
  | zero => intro i a b h; omega
  | succ k ih =>
    intro i a b h
    simp only [spec_FairFloor.l0, smax_eq, Option.bind_some]
    by_cases hi : i < l.length
    · rw [if_pos (by omega), if_pos (by omega), rdT l i hi, wr ((i : Int) + 1) (by omega) (by omega), List.drop_eq_getElem_cons hi, endsOf, sisFairT, Option.bind_some]
      have en := fun a b => ih (i + 1) a b (by omega)
      by_cases ht : fairT l[i]
      · rw [if_pos (decide_eq_true ht), if_pos ht]
        by_cases ha : a < 0
        · simp only [if_pos ha]
          exact en _ _
        · simp only [if_neg ha]
          by_cases hb : (l[i]).f13 < a
          · simp only [if_pos hb]
            exact en _ _
          · simp only [if_neg hb]
            exact en _ _
      · rw [if_neg (by rw [decide_eq_true_eq]; exact ht), if_neg ht]
        exact en _ _
    · rw [if_neg (by omega), List.drop_eq_nil_of_le (by omega), endsOf]
      by_cases ha : a < 0
      · simp only [if_pos ha]
      · simp only [if_neg ha]
theorem sFloor_ev (l : List S25) (hl : l.length ≤ 1048576000) (fl : Int) : Ev (fun k => spec_FairFloor.f k l fl) (if (endsOf l (-1, -1)).1 < 0 then fl else if fl > (endsOf l (-1, -1)).1 then fl else (endsOf l (-1, -1)).1) := by
  refine Ev.of (fun k => spec_FairFloor.mono l fl k) (k := l.length + 1) ?_
  unfold spec_FairFloor.f
  exact sFloor_loop l fl hl (l.length + 1) 0 (-1) (-1) (by omega)
theorem sSpread_loop (l : List S25) (hl : l.length ≤ 1048576000) : ∀ (k i : Nat) (a b : Int), l.length - i < k → spec_FairSpread.l0 k l a b (i : Int) = some (wrap64 ((endsOf (l.drop i) (a, b)).2 - (endsOf (l.drop i) (a, b)).1)) := by
  intro k
  induction k with
  | zero => intro i a b h; omega
  | succ k ih =>
    intro i a b h
    simp only [spec_FairSpread.l0, smax_eq, Option.bind_some]
    by_cases hi : i < l.length
    · rw [if_pos (by omega), if_pos (by omega), rdT l i hi, wr ((i : Int) + 1) (by omega) (by omega), List.drop_eq_getElem_cons hi, endsOf, sisFairT, Option.bind_some]
      have en := fun a b => ih (i + 1) a b (by omega)
      by_cases ht : fairT l[i]
      · rw [if_pos (decide_eq_true ht), if_pos ht]
        by_cases ha : a < 0
        · simp only [if_pos ha]
          exact en _ _
        · simp only [if_neg ha]
          by_cases hb : (l[i]).f13 < a
          · simp only [if_pos hb]
            exact en _ _
          · simp only [if_neg hb]
            exact en _ _
      · rw [if_neg (by rw [decide_eq_true_eq]; exact ht), if_neg ht]
        exact en _ _
    · rw [if_neg (by omega), List.drop_eq_nil_of_le (by omega), endsOf]
theorem sSpread_ev (l : List S25) (hl : l.length ≤ 1048576000) : Ev (fun k => spec_FairSpread.f k l) (wrap64 ((endsOf l (-1, -1)).2 - (endsOf l (-1, -1)).1)) := by
  refine Ev.of (fun k => spec_FairSpread.mono l k) (k := l.length + 1) ?_
  unfold spec_FairSpread.f
  exact sSpread_loop l hl (l.length + 1) 0 (-1) (-1) (by omega)
theorem FnFloor : laws_FnFloor.Pure := by
  intro l hl _ _
  refine Ev.rounds (r := true) ?_
  unfold laws_FnFloor.f laws_big.f
  simp only [Option.bind_some, decide_eq_true_eq]
  by_cases hb : (l.length : Int) > 1048576
  · exact evPos hb (Ev.now _)
  · refine evNeg hb ?_
    obtain ⟨⟨y, fl⟩, e, hy⟩ := drawFairFloor_en l hl
    have hy : y.length ≤ 31 := hy
    have hy2 : y.length ≤ 1048576000 := by omega
    refine Ev.bind e ?_
    simp only []
    refine Ev.bind (iFloor_ev y hy2 fl) (Ev.bind (iSpread_ev y hy2) (Ev.bind (sFloor_ev y hy2 fl) (evPos rfl (Ev.bind (sSpread_ev y hy2) (evPos rfl ?_)))))
    have key : ∀ F : Int, (F = fl ∨ ∀ t ∈ y, fairT t → F ≤ t.f13) → Ev (fun k => laws_FnFloor.j0 k y fl F false) true := by
      intro F hF
      refine Ev.step (fun k => by simp only [laws_FnFloor.j0]; rfl) ?_
      refine evNeg (by decide) (floor_loop y (by omega) fl F y.length 0 F (by omega) (by omega) ?_)
      rcases hF with h | h
      · exact .inl h
      · exact .inr ⟨rfl, h⟩
    rcases endsOf_all y with ⟨h1, h2⟩ | ⟨⟨h1, h2, h3⟩, h4⟩
    · rw [h1, h2]
      simp only [if_pos (show (-1 : Int) < 0 by omega)]
      refine evNeg (by omega) ?_
      rw [show decide (wrap64 ((-1 : Int) - -1) < 0) = false by rw [wr _ (by omega) (by omega)]; decide]
      exact key fl (.inl rfl)
    · rw [wr _ (by omega) (by omega), decide_eq_false (show ¬ (endsOf y (-1, -1)).2 - (endsOf y (-1, -1)).1 < 0 by omega), if_neg (show ¬ (endsOf y (-1, -1)).1 < 0 by omega)]
      by_cases h : fl > (endsOf y (-1, -1)).1
      · rw [if_pos h]
        exact evNeg (by omega) (key fl (.inl rfl))
      · rw [if_neg h]
        exact evNeg (by omega) (key _ (.inr h4))

end Go.Proofs.Ytnokdjkkgcpbdac.Pure
