/- The pure statement of FnAble, over numbers and lists: of drawn tasks and locks whoever can have a turn is able, and has an executor that is ready and does not wait. Conditions: those of the statement (the drawn bytes lie in memory). -/
import Derived.Test.YthmcgbjfcjbhkaaPrintLawsFnAble
set_option linter.unusedVariables false
set_option linter.unusedSimpArgs false
namespace Go.Proofs.Ythmcgbjfcjbhkaa.Pure
open Go.RowKit Go.Proofs.Ythmcgbjfcjbhkaa.Print Go.Proofs.YthmcgbjfcjbhkaaW.PrintWords Go.Proofs.YthmcgbjfcjbhkaaW.PrintLast Go.Proofs.YthmcgbjfcjbhkaaW.PrintMore Go.Proofs.Ythmcgbjfcjbhkaa.Base

def okL (x : S41) : Prop := (0 ≤ x.f0 ∧ x.f0 ≤ 1000) ∧ (x.f0 = 0 → x.f1.length = 0)
/-- All that wait. -/
def allW (l : List S41) : List Int := l.flatMap (fun x => x.f1)
/-- Each lock's waits are no more than so many. -/
def shortK (l : List S41) : Prop := l.length ≤ 1048576 ∧ ∀ x ∈ l, x.f1.length ≤ 1048576
/-- Whether the chain of a number comes to an end. -/
noncomputable def chB (l : List S41) (no : Int) : Bool := @ite Bool (shortK l) (Classical.propDecidable _) (@decide (∃ o, Ev (fun k => impl_chain.f k l no) (o, true)) (Classical.propDecidable _)) false
def okN (l : List S41) (w : Int) : Prop := (1 ≤ w ∧ w ≤ 1000) ∧ (allW l).count w = 1 ∧ chB l w = true
def tOk (t : S32) : Prop := TaskP t.f0 t.f1 t.f2 t.f3 t.f5 t.f6 t.f7 t.f8 t.f9 t.f10 t.f11 t.f12 t.f13
instance (t : S32) : Decidable (tOk t) := by unfold tOk; infer_instance
/-- What makes a list of tasks right from place i on. -/
def tsFrom (l : List S32) (i : Nat) : Prop := (∀ j, i ≤ j → ∀ h : j < l.length, tOk l[j] ∧ (0 < j → (l[j - 1]).f0 < (l[j]).f0)) ∧ l.length ≤ 12
noncomputable instance (l : List S32) (i : Nat) : Decidable (tsFrom l i) := Classical.propDecidable _
/-- Both sides are right. -/
def bothOk (T : List S32) (l : List S41) : Prop := tsFrom T 0 ∧ l.length ≤ 5 ∧ ∀ x ∈ l, okL x ∧ ∀ w ∈ x.f1, okN l w
theorem allW_cons (x : S41) (r : List S41) : allW (x :: r) = x.f1 ++ allW r := by
  unfold allW
  rw [List.flatMap_cons]
theorem rd_at (l : List Int) (i : Nat) (h : i < l.length) : rd l (i : Int) = l[i] := by
  unfold rd
  rw [Int.toNat_natCast, List.getD_eq_getElem?_getD, List.getElem?_eq_getElem h, Option.getD_some]
theorem contP_loop (l : List Int) (v : Int) (hm : l.length ≤ 9223372036854775807) : ∀ (k i : Nat), l.length - i < k → ∃ r, slices_Index_int_int.l0 k l v (l.length : Int) (i : Int) = some r ∧ decide (r ≥ 0) = decide (v ∈ l.drop i) := by
  intro k
  induction k with
  | zero => intro i h; omega
  | succ k ih =>
    intro i h
    simp only [slices_Index_int_int.l0]
    by_cases hi : i < l.length
    · rw [if_pos (by omega), if_pos (by omega), if_pos (by omega), rd_at l i hi, wr _ (by omega) (by omega), List.drop_eq_getElem_cons hi]
      by_cases e : v = l[i]
      · rw [if_pos e]
        exact ⟨_, rfl, decide_eq_decide.2 ⟨fun _ => by rw [e]; exact List.mem_cons_self, fun _ => by omega⟩⟩
      · rw [if_neg e]
        obtain ⟨r, q, g⟩ := ih (i + 1) (by omega)
        refine ⟨r, q, g.trans (decide_eq_decide.2 ?_)⟩
        rw [List.mem_cons]
        exact ⟨.inr, fun x => x.resolve_left e⟩
    · rw [if_neg (by omega), List.drop_eq_nil_of_le (by omega)]
      exact ⟨_, rfl, rfl⟩
theorem contP_val (l : List Int) (v : Int) (hm : l.length ≤ 9223372036854775807) : slices_Contains_int_int.f (l.length + 1) l v = some (decide (v ∈ l)) := by
  obtain ⟨r, h, e⟩ := contP_loop l v hm (l.length + 1) 0 (by omega)
  unfold slices_Contains_int_int.f slices_Index_int_int.f
  have h : slices_Index_int_int.l0 (l.length + 1) l v (l.length : Int) 0 = some r := h
  rw [h, Option.bind_some, e]
  rfl
theorem cont_ev (l : List Int) (hl : l.length ≤ 9223372036854775807) (v : Int) : Ev (fun k => slices_Contains_int_int.f k l v) (decide (v ∈ l)) := Ev.of (fun k => slices_Contains_int_int.mono l v k) (contP_val l v (by omega))
theorem idxF_find {α : Type} (p : α → Bool) : ∀ (l : List α) (i : Int), (idxF p l i = -1 ∧ ∀ t ∈ l, p t = false) ∨ ∃ j : Nat, ∃ h : j < l.length, idxF p l i = i + (j : Int) ∧ p l[j] = true := by
  intro l
  induction l with
  | nil => intro i; exact .inl ⟨rfl, fun t ht => absurd ht (by simp)⟩
  | cons x r ih =>
    intro i
    rw [idxF]
    by_cases h : p x = true
    · rw [if_pos h]
      exact .inr ⟨0, by simp, by simp, h⟩
    · rw [if_neg h]
      rcases ih (i + 1) with ⟨e, g⟩ | ⟨j, hj, e, g⟩
      · refine .inl ⟨e, fun t ht => ?_⟩
        rcases List.mem_cons.1 ht with rfl | ht
        · exact Bool.eq_false_iff.2 h
        · exact g t ht
      · refine .inr ⟨j + 1, by simp only [List.length_cons]; omega, by rw [e]; omega, ?_⟩
        rw [List.getElem_cons_succ]
        exact g
/-- Where a number waits. -/
def waitAt (l : List S41) (v : Int) : Int := idxF (fun t => decide (v ∈ t.f1)) l 0
theorem idxK (l : List S41) (v : Int) : waitAt l v = -1 ∨ (0 ≤ waitAt l v ∧ waitAt l v < (l.length : Int)) := by
  rcases idxF_find (fun t : S41 => decide (v ∈ t.f1)) l 0 with ⟨e, _⟩ | ⟨j, hj, e, _⟩
  · exact .inl e
  · refine .inr ?_
    unfold waitAt
    rw [e]
    omega
/-- The owner of what a number waits for. -/
def ownK (l : List S41) (v : Int) : Int := (rd_T41 l (waitAt l v)).f0
theorem hasE_loop (l : List Int) (hl : l.length ≤ 1048576000) (v : Int) : ∀ (d i : Nat), l.length - i = d → i ≤ l.length → Ev (fun k => spec_l7Has.l0 k l v (i : Int)) (decide (v ∈ l.drop i)) := by
  intro d
  induction d with
  | zero =>
    intro i hd hi
    refine Ev.step (fun k => by simp only [spec_l7Has.l0]; rfl) ?_
    refine evNeg (by omega) ?_
    rw [List.drop_eq_nil_of_le (by omega)]
    exact evEq _ (fun _ => rfl) (by simp)
  | succ d ih =>
    intro i hd hi
    have hi2 : i < l.length := by omega
    refine Ev.step (fun k => by simp only [spec_l7Has.l0]; rfl) ?_
    refine evPos (by omega) (evPos (by omega) ?_)
    rw [rd_at l i hi2, List.drop_eq_getElem_cons hi2, wr _ (by omega) (by omega)]
    by_cases h : l[i] = v
    · exact evPos h (evEq _ (fun _ => rfl) (by simp [h]))
    · refine evNeg h ?_
      rw [show decide (v ∈ l[i] :: l.drop (i + 1)) = decide (v ∈ l.drop (i + 1)) from decide_eq_decide.2 (by rw [List.mem_cons]; exact ⟨fun x => x.resolve_left fun e => h e.symm, .inr⟩)]
      exact ih (i + 1) (by omega) (by omega)
theorem hasE_ev (l : List Int) (hl : l.length ≤ 1048576000) (v : Int) : Ev (fun k => spec_l7Has.f k l v) (decide (v ∈ l)) := hasE_loop l hl v l.length 0 (by omega) (by omega)
theorem rdK (l : List S41) (i : Nat) (h : i < l.length) : rd_T41 l (i : Int) = l[i] := by
  unfold rd_T41
  rw [Int.toNat_natCast, List.getD_eq_getElem?_getD, List.getElem?_eq_getElem h, Option.getD_some]
theorem sWaitAt_loop (l : List S41) (hl : shortK l) (v : Int) : ∀ (d i : Nat), l.length - i = d → i ≤ l.length → Ev (fun k => spec_WaitAt.l0 k l v (i : Int)) (idxF (fun t => decide (v ∈ t.f1)) (l.drop i) (i : Int)) := by
  obtain ⟨hl1, hl2⟩ := hl
  intro d
  induction d with
  | zero =>
    intro i hd hi
    refine Ev.step (fun k => by simp only [spec_WaitAt.l0]; rfl) ?_
    refine evNeg (by omega) ?_
    rw [List.drop_eq_nil_of_le (by omega), idxF]
    exact Ev.now _
  | succ d ih =>
    intro i hd hi
    have hi2 : i < l.length := by omega
    have e : wrap64 ((i : Int) + 1) = ((i + 1 : Nat) : Int) := by rw [wr _ (by omega) (by omega)]; omega
    refine Ev.step (fun k => by simp only [spec_WaitAt.l0]; rfl) ?_
    refine evPos (by omega) (evPos (by omega) ?_)
    rw [rdK l i hi2, e, List.drop_eq_getElem_cons hi2, idxF]
    refine Ev.bind (hasE_ev _ (by have := hl2 l[i] (List.getElem_mem hi2); omega) v) ?_
    by_cases h : v ∈ (l[i]).f1
    · rw [if_pos (decide_eq_true h)]
      exact evPos (decide_eq_true h) (Ev.now _)
    · rw [if_neg (by rw [decide_eq_true_eq]; exact h)]
      exact evNeg (by rw [decide_eq_true_eq]; exact h) (ih (i + 1) (by omega) (by omega))
theorem sWaitAt_ev (l : List S41) (hl : shortK l) (v : Int) : Ev (fun k => spec_WaitAt.f k l v) (waitAt l v) := sWaitAt_loop l hl v l.length 0 (by omega) (by omega)
/-- From a number of C on there is no end. -/
theorem chain_round (l : List S41) (hl : shortK l) (C : List Int) (hC : ∀ x ∈ C, 0 ≤ waitAt l x ∧ ownK l x ∈ C) : ∀ (d j : Nat) (no : Int) (out : List Int), l.length + 1 - j = d → j ≤ l.length + 1 → out.length ≤ j + 1 → no ∈ C → ∃ s, Ev (fun k => spec_l7Chain.l0 k l no out (j : Int)) (s, false) := by
  have hl1 := hl.1
  intro d
  induction d with
  | zero =>
    intro j no out hd hj ho hn
    refine ⟨out, Ev.step (fun k => by simp only [spec_l7Chain.l0]; rfl) ?_⟩
    exact evNeg (by omega) (Ev.now _)
  | succ d ih =>
    intro j no out hd hj ho hn
    have e : wrap64 ((j : Int) + 1) = ((j + 1 : Nat) : Int) := by rw [wr _ (by omega) (by omega)]; omega
    obtain ⟨h0, h1⟩ := hC no hn
    have hlt := (idxK l no).resolve_left (by omega)
    obtain ⟨s, hs⟩ := ih (j + 1) (ownK l no) (out ++ [ownK l no]) (by omega) (by omega) (by rw [List.length_append, List.length_singleton]; omega) h1
    refine ⟨s, Ev.step (fun k => by simp only [spec_l7Chain.l0]; rfl) ?_⟩
    refine evPos (by omega) (Ev.bind (sWaitAt_ev l hl no) (evNeg (by omega) (evPos h0 (evPos hlt.2 (evPos (by omega) ?_)))))
    rw [e]
    exact hs
theorem nat_nodup_le : ∀ (n : Nat) (I : List Nat), I.Nodup → (∀ i ∈ I, i < n) → I.length ≤ n := by
  intro n
  induction n with
  | zero =>
    intro I _ h
    cases I with
    | nil => exact Nat.le_refl _
    | cons x r => exact absurd (h x List.mem_cons_self) (by omega)
  | succ n ih =>
    intro I hn h
    have a := ih (I.erase n) (hn.erase n) (fun i hi => by
      have hm := (List.Nodup.mem_erase_iff hn).1 hi
      have := h i hm.2
      have := hm.1
      omega)
    by_cases hm : n ∈ I
    · rw [List.length_erase_of_mem hm] at a
      omega
    · rw [List.erase_of_not_mem hm] at a
      omega
theorem chain_sim (l : List S41) (hl : shortK l) : ∀ (d j : Nat) (pre : List Int) (no : Int), l.length + 1 - j = d → j ≤ l.length → pre.length = j → (pre.map (waitAt l)).Nodup → (∀ x ∈ pre, 0 ≤ waitAt l x ∧ ownK l x ∈ pre ++ [no]) → ∃ (b : Bool) (o s : List Int), Ev (fun k => impl_chain.l0 k l no (pre ++ [no])) (o, b) ∧ Ev (fun k => spec_l7Chain.l0 k l no (pre ++ [no]) (j : Int)) (s, b) ∧ (b = true → s = o) ∧ (b = false → o = []) ∧ (b = true → o.length ≤ l.length + 1 ∧ ∃ t, o = pre ++ no :: t) := by
  have hl1 := hl.1
  intro d
  induction d with
  | zero =>
    intro j pre no hd hj hp hn hpre
    omega
  | succ d ih =>
    intro j pre no hd hj hp hn hpre
    have e : wrap64 ((j : Int) + 1) = ((j + 1 : Nat) : Int) := by rw [wr _ (by omega) (by omega)]; omega
    have hlen : (pre ++ [no]).length = j + 1 := by rw [List.length_append, List.length_singleton, hp]
    rcases idxK l no with hw | ⟨h0, hlt⟩
    · refine ⟨true, pre ++ [no], pre ++ [no], ?_, ?_, fun _ => rfl, fun h => absurd h (by decide), fun _ => ⟨by omega, [], rfl⟩⟩
      · refine Ev.step (fun k => by simp only [impl_chain.l0, impl_WaitAt.f, Option.bind_some]; rfl) ?_
        exact evPos (show waitAt l no < 0 by omega) (Ev.now _)
      · refine Ev.step (fun k => by simp only [spec_l7Chain.l0]; rfl) ?_
        exact evPos (by omega) (Ev.bind (sWaitAt_ev l hl no) (evPos (by omega) (Ev.now _)))
    · by_cases hc : ownK l no ∈ pre ++ [no]
      · have hC : ∀ x ∈ pre ++ [no], 0 ≤ waitAt l x ∧ ownK l x ∈ pre ++ [no] := by
          intro x hx
          rcases List.mem_append.1 hx with hx | hx
          · exact hpre x hx
          · rw [List.mem_singleton.1 hx]
            exact ⟨h0, hc⟩
        obtain ⟨s, hs⟩ := chain_round l hl (pre ++ [no]) hC (l.length + 1 - j) j no (pre ++ [no]) rfl (by omega) (by omega) (by simp)
        refine ⟨false, [], s, ?_, hs, fun h => absurd h (by decide), fun _ => rfl, fun h => absurd h (by decide)⟩
        refine Ev.step (fun k => by simp only [impl_chain.l0, impl_WaitAt.f, Option.bind_some]; rfl) ?_
        refine evNeg (show ¬ waitAt l no < 0 by omega) (evPos h0 (evPos hlt (Ev.bind (cont_ev _ (by omega) _) ?_)))
        exact evPos (decide_eq_true hc) (Ev.now _)
      · have hn2 : ((pre ++ [no]).map (waitAt l)).Nodup := by
          rw [List.map_append, List.nodup_append]
          refine ⟨hn, by simp, ?_⟩
          intro a ha b hb hab
          simp only [List.map_cons, List.map_nil, List.mem_singleton] at hb
          obtain ⟨x, hx, rfl⟩ := List.mem_map.1 ha
          have ho : ownK l x = ownK l no := by unfold ownK; rw [hab, hb]
          have := (hpre x hx).2
          rw [ho] at this
          exact hc this
        have hpg := nat_nodup_le l.length ((pre ++ [no]).map (fun x => (waitAt l x).toNat)) (by
          have := hn2
          rw [show ((pre ++ [no]).map (fun x => (waitAt l x).toNat)) = ((pre ++ [no]).map (waitAt l)).map Int.toNat by rw [List.map_map]; rfl]
          refine List.Pairwise.map _ ?_ (List.Pairwise.and_mem.1 hn2)
          intro a b hab hq
          obtain ⟨x, hx, rfl⟩ := List.mem_map.1 hab.1
          obtain ⟨y, hy, rfl⟩ := List.mem_map.1 hab.2.1
          have ge : ∀ z ∈ pre ++ [no], 0 ≤ waitAt l z := by
            intro z hz
            rcases List.mem_append.1 hz with hz | hz
            · exact (hpre z hz).1
            · rw [List.mem_singleton.1 hz]
              exact h0
          have := ge x hx
          have := ge y hy
          exact hab.2.2 (by omega)) (by
          intro i hi
          obtain ⟨x, hx, rfl⟩ := List.mem_map.1 hi
          rcases idxK l x with q | q
          · rcases List.mem_append.1 hx with hx | hx
            · have := (hpre x hx).1
              omega
            · rw [List.mem_singleton.1 hx] at q
              omega
          · omega)
        rw [List.length_map, hlen] at hpg
        obtain ⟨b, o, s, h1, h2, h3, h4, h5⟩ := ih (j + 1) (pre ++ [no]) (ownK l no) (by omega) hpg hlen hn2 (by
          intro x hx
          rcases List.mem_append.1 hx with hx | hx
          · exact ⟨(hpre x hx).1, List.mem_append.2 (.inl (hpre x hx).2)⟩
          · rw [List.mem_singleton.1 hx]
            exact ⟨h0, by simp⟩)
        refine ⟨b, o, s, ?_, ?_, h3, h4, fun hb => ⟨(h5 hb).1, by obtain ⟨t, ht⟩ := (h5 hb).2; exact ⟨ownK l no :: t, by rw [ht, List.append_assoc]; rfl⟩⟩⟩
        · refine Ev.step (fun k => by simp only [impl_chain.l0, impl_WaitAt.f, Option.bind_some]; rfl) ?_
          refine evNeg (show ¬ waitAt l no < 0 by omega) (evPos h0 (evPos hlt (Ev.bind (cont_ev _ (by omega) _) ?_)))
          exact evNeg (by rw [decide_eq_true_eq]; exact hc) (evPos (by omega) h1)
        · refine Ev.step (fun k => by simp only [spec_l7Chain.l0]; rfl) ?_
          refine evPos (by omega) (Ev.bind (sWaitAt_ev l hl no) (evNeg (by omega) (evPos h0 (evPos hlt (evPos (by omega) ?_)))))
          rw [e]
          exact h2
theorem chain_ex (l : List S41) (hl : shortK l) (no : Int) : ∃ (b : Bool) (o s : List Int), Ev (fun k => impl_chain.f k l no) (o, b) ∧ Ev (fun k => spec_l7Chain.f k l no) (s, b) ∧ (b = true → s = o) ∧ (b = false → o = []) ∧ (b = true → o.length ≤ l.length + 1 ∧ ∃ t, o = no :: t) := chain_sim l hl (l.length + 1) 0 [] no (by omega) (by omega) rfl (by simp) (fun x hx => absurd hx (by simp))
theorem ev_one {α : Type} {f : Nat → Option α} {r s : α} (h : Ev f r) (g : Ev f s) : r = s := by
  obtain ⟨a, ha⟩ := h
  obtain ⟨b, hb⟩ := g
  have := (ha (a + b) (by omega)).symm.trans (hb (a + b) (by omega))
  exact Option.some.inj this
theorem chB_ev (l : List S41) (hl : shortK l) (no : Int) : ∃ o s, Ev (fun k => impl_chain.f k l no) (o, chB l no) ∧ Ev (fun k => spec_l7Chain.f k l no) (s, chB l no) ∧ (chB l no = true → s = o) ∧ (chB l no = false → o = []) ∧ (chB l no = true → o.length ≤ l.length + 1 ∧ ∃ t, o = no :: t) := by
  obtain ⟨b, o, s, h1, h2, h3, h4, h5⟩ := chain_ex l hl no
  have : chB l no = b := by
    unfold chB
    rw [if_pos hl]
    cases b with
    | true => exact @decide_eq_true _ (Classical.propDecidable _) ⟨o, h1⟩
    | false =>
      refine @decide_eq_false _ (Classical.propDecidable _) ?_
      rintro ⟨o2, h⟩
      have := ev_one h h1
      simp at this
  rw [this]
  exact ⟨o, s, h1, h2, h3, h4, h5⟩
theorem iLocks_l2 (l : List S41) (hl : shortK l) (x3 : List Int) (hx : x3.length ≤ 2199023255552) : ∀ (c j : Nat), x3.length - j = c → j ≤ x3.length → ∃ b, Ev (fun k => impl_LocksOk.l2 k l x3 (x3.length : Int) (j : Int)) b ∧ (b = true ↔ (∀ w ∈ x3.drop j, chB l w = true) ∧ l.length ≤ 5) := by
  intro c
  induction c with
  | zero =>
    intro j hc hj
    refine ⟨decide ((l.length : Int) ≤ 5), ?_, ?_⟩
    · refine Ev.step (fun k => by simp only [impl_LocksOk.l2]; rfl) ?_
      exact evNeg (by omega) (Ev.now _)
    · rw [List.drop_eq_nil_of_le (by omega), decide_eq_true_eq]
      exact ⟨fun z => ⟨fun w hw => absurd hw (by simp), by omega⟩, fun z => by omega⟩
  | succ c ihc =>
    intro j hc hj
    have hj2 : j < x3.length := by omega
    have ej : Unit → wrap64 ((j : Int) + 1) = ((j + 1 : Nat) : Int) := fun _ => by rw [wr _ (by omega) (by omega)]; omega
    obtain ⟨o, s, ho, _, _⟩ := chB_ev l hl (x3[j])
    have head : ∀ r, (chB l x3[j] = true → Ev (fun k => impl_LocksOk.l2 k l x3 (x3.length : Int) ((j + 1 : Nat) : Int)) r) → (¬ chB l x3[j] = true → r = false) → Ev (fun k => impl_LocksOk.l2 k l x3 (x3.length : Int) (j : Int)) r := by
      intro r hr hf
      refine Ev.step (fun k => by simp only [impl_LocksOk.l2]; rfl) ?_
      refine evPos (by omega) (evPos (by omega) (evPos (by omega) ?_))
      rw [rd_at _ j hj2, ej ()]
      refine Ev.bind ho ?_
      by_cases h : chB l x3[j] = true
      · exact evPos h (hr h)
      · rw [hf h]
        exact evNeg h (Ev.now _)
    rw [List.drop_eq_getElem_cons hj2, List.forall_mem_cons]
    by_cases h : chB l x3[j] = true
    · obtain ⟨b, hb, hx2⟩ := ihc (j + 1) (by omega) (by omega)
      exact ⟨b, head b (fun _ => hb) (fun z => absurd h z), hx2.trans ⟨fun z => ⟨⟨h, z.1⟩, z.2⟩, fun z => ⟨z.1.2, z.2⟩⟩⟩
    · exact ⟨false, head false (fun z => absurd z h) (fun _ => rfl), ⟨fun z => absurd z (by decide), fun z => absurd z.1.1 h⟩⟩
theorem in_eq (a b c : Int) : impl_in.f a b c = some (decide (b ≤ a ∧ a ≤ c)) := by
  unfold impl_in.f
  by_cases h : a ≥ b
  · rw [if_pos h]; simp [show b ≤ a from h]
  · rw [if_neg h]; simp; omega
/-- What impl.LocksOk still asks: of the numbers met (x3), of those to come (R), of the locks to come (L). -/
def restI (l : List S41) (x3 R : List Int) (L : List S41) : Prop := (∀ x ∈ L, okL x) ∧ (∀ w ∈ R, 1 ≤ w ∧ w ≤ 1000) ∧ (x3 ++ R).Nodup ∧ (∀ w ∈ x3 ++ R, chB l w = true) ∧ l.length ≤ 5
theorem iLocks_loop (l : List S41) (hl : shortK l) : ∀ (d i : Nat) (x3 : List Int), l.length - i = d → i ≤ l.length → x3.length ≤ 1048576 * i → x3.Nodup → ∃ b, Ev (fun k => impl_LocksOk.l0 k l x3 l (l.length : Int) (i : Int)) b ∧ (b = true ↔ restI l x3 (allW (l.drop i)) (l.drop i)) := by
  have hl1 := hl.1
  intro d
  induction d with
  | zero =>
    intro i x3 hd hi hx hn
    obtain ⟨b, hb, hq⟩ := iLocks_l2 l hl x3 (by omega) x3.length 0 (by omega) (by omega)
    refine ⟨b, ?_, ?_⟩
    · refine Ev.step (fun k => by simp only [impl_LocksOk.l0]; rfl) ?_
      exact evNeg (by omega) hb
    · rw [List.drop_eq_nil_of_le (show l.length ≤ i by omega)]
      rw [List.drop_zero] at hq
      refine hq.trans ?_
      unfold restI
      rw [show allW ([] : List S41) = [] from rfl, List.append_nil]
      exact ⟨fun z => ⟨fun x hx => absurd hx (by simp), fun x hx => absurd hx (by simp), hn, z.1, z.2⟩, fun z => ⟨z.2.2.2.1, z.2.2.2.2⟩⟩
  | succ d ih =>
    intro i x3 hd hi hx hn
    have hi2 : i < l.length := by omega
    have hf := hl.2 l[i] (List.getElem_mem hi2)
    have e : Unit → wrap64 ((i : Int) + 1) = ((i + 1 : Nat) : Int) := fun _ => by rw [wr _ (by omega) (by omega)]; omega
    have inner : ∀ (c j : Nat) (x3 : List Int), (l[i]).f1.length - j = c → j ≤ (l[i]).f1.length → x3.length ≤ 1048576 * i + j → x3.Nodup → ∃ b, Ev (fun k => impl_LocksOk.l1 k l x3 l (l.length : Int) (i : Int) (l[i]).f1 ((l[i]).f1.length : Int) (j : Int)) b ∧ (b = true ↔ restI l x3 ((l[i]).f1.drop j ++ allW (l.drop (i + 1))) (l.drop (i + 1))) := by
      intro c
      induction c with
      | zero =>
        intro j x3 hc hj hx hn
        obtain ⟨b, hb, hq⟩ := ih (i + 1) x3 (by omega) (by omega) (by omega) hn
        refine ⟨b, ?_, by rw [List.drop_eq_nil_of_le (show (l[i]).f1.length ≤ j by omega), List.nil_append]; exact hq⟩
        refine Ev.step (fun k => by simp only [impl_LocksOk.l1]; rfl) ?_
        refine evNeg (by omega) ?_
        rw [e ()]
        exact hb
      | succ c ihc =>
        intro j x3 hc hj hx hn
        have hj2 : j < (l[i]).f1.length := by omega
        have ej : Unit → wrap64 ((j : Int) + 1) = ((j + 1 : Nat) : Int) := fun _ => by rw [wr _ (by omega) (by omega)]; omega
        have head : ∀ r, ((1 ≤ (l[i]).f1[j] ∧ (l[i]).f1[j] ≤ 1000) → (l[i]).f1[j] ∉ x3 → Ev (fun k => impl_LocksOk.l1 k l (x3 ++ [(l[i]).f1[j]]) l (l.length : Int) (i : Int) (l[i]).f1 ((l[i]).f1.length : Int) ((j + 1 : Nat) : Int)) r) → (¬ ((1 ≤ (l[i]).f1[j] ∧ (l[i]).f1[j] ≤ 1000) ∧ (l[i]).f1[j] ∉ x3) → r = false) → Ev (fun k => impl_LocksOk.l1 k l x3 l (l.length : Int) (i : Int) (l[i]).f1 ((l[i]).f1.length : Int) (j : Int)) r := by
          intro r hr hf2
          refine Ev.step (fun k => by simp only [impl_LocksOk.l1]; rfl) ?_
          refine evPos (by omega) (evPos (by omega) (evPos (by omega) ?_))
          rw [rd_at _ j hj2, ej ()]
          simp only [impl_isNo.f, in_eq, Option.bind_some]
          by_cases h1 : 1 ≤ (l[i]).f1[j] ∧ (l[i]).f1[j] ≤ 1000
          · refine evPos (decide_eq_true h1) (Ev.bind (cont_ev x3 (by omega) _) ?_)
            by_cases h2 : (l[i]).f1[j] ∈ x3
            · rw [hf2 fun z => z.2 h2]
              exact evPos (decide_eq_true h2) (Ev.now _)
            · exact evNeg (by rw [decide_eq_true_eq]; exact h2) (evPos (by omega) (hr h1 h2))
          · rw [hf2 fun z => h1 z.1]
            exact evNeg (by rw [decide_eq_true_eq]; exact h1) (Ev.now _)
        rw [List.drop_eq_getElem_cons hj2, List.cons_append]
        by_cases h : (1 ≤ (l[i]).f1[j] ∧ (l[i]).f1[j] ≤ 1000) ∧ (l[i]).f1[j] ∉ x3
        · obtain ⟨b, hb, hq⟩ := ihc (j + 1) (x3 ++ [(l[i]).f1[j]]) (by omega) (by omega) (by rw [List.length_append, List.length_singleton]; omega) (by
            rw [List.nodup_append]
            exact ⟨hn, by simp, fun a ha b hb hab => h.2 (by rw [List.mem_singleton] at hb; rw [← hb, ← hab]; exact ha)⟩)
          refine ⟨b, head b (fun _ _ => hb) (fun z => absurd h z), hq.trans ?_⟩
          unfold restI
          rw [List.forall_mem_cons, List.append_assoc, List.singleton_append]
          exact ⟨fun z => ⟨z.1, ⟨h.1, z.2.1⟩, z.2.2⟩, fun z => ⟨z.1, z.2.1.2, z.2.2⟩⟩
        · refine ⟨false, head false (fun x y => absurd ⟨x, y⟩ h) (fun _ => rfl), ⟨fun z => absurd z (by decide), fun z => ?_⟩⟩
          unfold restI at z
          rw [List.forall_mem_cons, List.nodup_append] at z
          exact absurd ⟨z.2.1.1, fun m => z.2.2.1.2.2 _ m _ List.mem_cons_self rfl⟩ h
    obtain ⟨b, hb, hq⟩ := inner (l[i]).f1.length 0 x3 (by omega) (by omega) (by omega) hn
    rw [List.drop_zero] at hq
    have good : Ev (fun k => impl_LocksOk.j1 k l x3 l (l.length : Int) (i : Int) false (l[i]).f0 (l[i]).f1) b := by
      refine Ev.step (fun k => by simp only [impl_LocksOk.j1]; rfl) ?_
      exact evNeg (by decide) hb
    have bad : Ev (fun k => impl_LocksOk.j1 k l x3 l (l.length : Int) (i : Int) true (l[i]).f0 (l[i]).f1) false := by
      refine Ev.step (fun k => by simp only [impl_LocksOk.j1]; rfl) ?_
      exact evPos trivial (Ev.now _)
    have top : ∀ r (c : Bool), Ev (fun k => impl_LocksOk.j1 k l x3 l (l.length : Int) (i : Int) c (l[i]).f0 (l[i]).f1) r → (impl_in.f (l[i]).f0 0 1000 = some true ∧ ((l[i]).f0 = 0 ∧ c = decide (((l[i]).f1.length : Int) > 0) ∨ (l[i]).f0 ≠ 0 ∧ c = false) ∨ impl_in.f (l[i]).f0 0 1000 = some false ∧ c = true) → Ev (fun k => impl_LocksOk.l0 k l x3 l (l.length : Int) (i : Int)) r := by
      intro r c hr hc
      refine Ev.step (fun k => by simp only [impl_LocksOk.l0]; rfl) ?_
      refine evPos (by omega) (evPos (by omega) (evPos (by omega) ?_))
      rw [rdK l i hi2]
      rcases hc with ⟨q, hc⟩ | ⟨q, hc⟩
      · rw [q]
        simp only [Option.bind_some]
        refine evPos trivial ?_
        rcases hc with ⟨z, hc⟩ | ⟨z, hc⟩
        · refine evPos z ?_
          rw [← hc]
          exact hr
        · refine evNeg z ?_
          rw [← hc]
          exact hr
      · rw [q]
        simp only [Option.bind_some]
        refine evNeg (by decide) ?_
        rw [← hc]
        exact hr
    rw [List.drop_eq_getElem_cons hi2, allW_cons]
    by_cases h : okL l[i]
    · refine ⟨b, top b false good (.inl ⟨by rw [in_eq]; exact congrArg some (decide_eq_true h.1), ?_⟩), hq.trans ?_⟩
      · by_cases h0 : (l[i]).f0 = 0
        · have := h.2 h0
          exact .inl ⟨h0, (decide_eq_false (by omega)).symm⟩
        · exact .inr ⟨h0, rfl⟩
      · unfold restI
        rw [List.forall_mem_cons]
        exact ⟨fun z => ⟨⟨h, z.1⟩, z.2⟩, fun z => ⟨z.1.2, z.2⟩⟩
    · refine ⟨false, top false true bad ?_, ⟨fun z => absurd z (by decide), fun z => absurd (z.1 _ List.mem_cons_self) h⟩⟩
      by_cases h1 : 0 ≤ (l[i]).f0 ∧ (l[i]).f0 ≤ 1000
      · by_cases h0 : (l[i]).f0 = 0
        · refine .inl ⟨by rw [in_eq]; exact congrArg some (decide_eq_true h1), .inl ⟨h0, (decide_eq_true ?_).symm⟩⟩
          exact Classical.byContradiction fun z => h ⟨h1, fun _ => by omega⟩
        · exact absurd ⟨h1, fun z => absurd z h0⟩ h
      · exact .inr ⟨by rw [in_eq]; exact congrArg some (decide_eq_false h1), rfl⟩
theorem nodup_count : ∀ (L : List Int), L.Nodup ↔ ∀ w ∈ L, L.count w = 1 := by
  intro L
  induction L with
  | nil => simp
  | cons x r ih =>
    rw [List.nodup_cons, ih]
    constructor
    · rintro ⟨h, g⟩ w hw
      rw [List.count_cons]
      by_cases e : x = w
      · rw [if_pos (by simp [e]), ← e, List.count_eq_zero.2 h]
      · rw [if_neg (by simp [e])]
        exact g w ((List.mem_cons.1 hw).resolve_left fun z => e z.symm)
    · intro h
      have hx := h x List.mem_cons_self
      rw [List.count_cons, if_pos (by simp)] at hx
      have h0 : x ∉ r := List.count_eq_zero.1 (by omega)
      refine ⟨h0, fun w hw => ?_⟩
      have := h w (List.mem_cons_of_mem _ hw)
      rw [List.count_cons, if_neg (by simp only [beq_iff_eq]; intro e; rw [e] at h0; exact h0 hw)] at this
      exact this
theorem sin_eq (a b c : Int) : spec_l1In.f a b c = some (decide (b ≤ a ∧ a ≤ c)) := by
  unfold spec_l1In.f
  by_cases h : a ≥ b
  · rw [if_pos h]; simp [show b ≤ a from h]
  · rw [if_neg h]; simp; omega
theorem cnt1 (n : Int) (a : Nat) : n + ((a + 1 : Nat) : Int) = n + 1 + (a : Int) := by omega
theorem cnt2 (n : Int) (a b : Nat) : n + ((a + b : Nat) : Int) = n + (a : Int) + (b : Int) := by omega
theorem waits_loop (l : List S41) (hl : shortK l) (v : Int) : ∀ (d i : Nat) (n : Int), l.length - i = d → i ≤ l.length → 0 ≤ n → n ≤ 1048576 * (i : Int) → Ev (fun k => spec_l7Waits.l0 k l v n (i : Int)) (n + ((allW (l.drop i)).count v : Int)) := by
  have hl1 := hl.1
  intro d
  induction d with
  | zero =>
    intro i n hd hi h0 h1
    refine Ev.step (fun k => by simp only [spec_l7Waits.l0]; rfl) ?_
    refine evNeg (by omega) ?_
    rw [List.drop_eq_nil_of_le (by omega)]
    exact evEq _ (fun _ => rfl) (by simp [allW])
  | succ d ih =>
    intro i n hd hi h0 h1
    have hi2 : i < l.length := by omega
    have hf := hl.2 l[i] (List.getElem_mem hi2)
    have e : Unit → wrap64 ((i : Int) + 1) = ((i + 1 : Nat) : Int) := fun _ => by rw [wr _ (by omega) (by omega)]; omega
    have inner : ∀ (c j : Nat) (n : Int), (l[i]).f1.length - j = c → j ≤ (l[i]).f1.length → 0 ≤ n → n ≤ 1048576 * (i : Int) + (j : Int) → Ev (fun k => spec_l7Waits.l1 k l v n (i : Int) (j : Int)) (n + ((((l[i]).f1.drop j).count v : Nat) : Int) + ((allW (l.drop (i + 1))).count v : Int)) := by
      intro c
      induction c with
      | zero =>
        intro j n hc hj g0 g1
        refine Ev.step (fun k => by simp only [spec_l7Waits.l1]; rfl) ?_
        refine evPos (by omega) (evPos (by omega) ?_)
        rw [rdK l i hi2, e ()]
        refine evNeg (by omega) ?_
        rw [List.drop_eq_nil_of_le (show (l[i]).f1.length ≤ j by omega), List.count_nil]
        have := ih (i + 1) n (by omega) (by omega) g0 (by omega)
        simpa using this
      | succ c ihc =>
        intro j n hc hj g0 g1
        have hj2 : j < (l[i]).f1.length := by omega
        have ej : Unit → wrap64 ((j : Int) + 1) = ((j + 1 : Nat) : Int) := fun _ => by rw [wr _ (by omega) (by omega)]; omega
        refine Ev.step (fun k => by simp only [spec_l7Waits.l1]; rfl) ?_
        refine evPos (by omega) (evPos (by omega) ?_)
        rw [rdK l i hi2]
        refine evPos (by omega) (evPos (by omega) ?_)
        rw [rd_at _ j hj2, ej (), wr (n + 1) (by omega) (by omega), List.drop_eq_getElem_cons hj2, List.count_cons]
        by_cases h : (l[i]).f1[j] = v
        · refine evPos h ?_
          have := ihc (j + 1) (n + 1) (by omega) (by omega) (by omega) (by omega)
          rw [if_pos (by simp [h])]
          rw [cnt1]
          exact this
        · refine evNeg h ?_
          have := ihc (j + 1) n (by omega) (by omega) (by omega) (by omega)
          rw [if_neg (by simp [h])]
          exact this
    refine Ev.step (fun k => by simp only [spec_l7Waits.l0]; rfl) ?_
    refine evPos (by omega) ?_
    have := inner (l[i]).f1.length 0 n (by omega) (by omega) h0 (by omega)
    rw [List.drop_eq_getElem_cons hi2, allW_cons, List.count_append]
    rw [List.drop_zero] at this
    rw [cnt2]
    exact this
theorem waits_ev (l : List S41) (hl : shortK l) (v : Int) : Ev (fun k => spec_l7Waits.f k l v) ((allW l).count v : Int) := by
  have := waits_loop l hl v l.length 0 0 (by omega) (by omega) (by omega) (by omega)
  rw [List.drop_zero, Int.zero_add] at this
  exact this
theorem sLocks_loop (l : List S41) (hl : shortK l) : ∀ (d i : Nat), l.length - i = d → i ≤ l.length → ∃ b, Ev (fun k => spec_LocksOk.l0 k l (i : Int)) b ∧ (b = true ↔ ∀ x ∈ l.drop i, okL x ∧ ∀ w ∈ x.f1, okN l w) := by
  have hl1 := hl.1
  intro d
  induction d with
  | zero =>
    intro i hd hi
    refine ⟨true, ?_, by rw [List.drop_eq_nil_of_le (by omega)]; simp⟩
    refine Ev.step (fun k => by simp only [spec_LocksOk.l0]; rfl) ?_
    exact evNeg (by omega) (Ev.now _)
  | succ d ih =>
    intro i hd hi
    have hi2 : i < l.length := by omega
    have hf := hl.2 l[i] (List.getElem_mem hi2)
    have e : Unit → wrap64 ((i : Int) + 1) = ((i + 1 : Nat) : Int) := fun _ => by rw [wr _ (by omega) (by omega)]; omega
    have inner : ∀ (c j : Nat), (l[i]).f1.length - j = c → j ≤ (l[i]).f1.length → ∃ b, Ev (fun k => spec_LocksOk.l1 k l (i : Int) (j : Int)) b ∧ (b = true ↔ (∀ w ∈ (l[i]).f1.drop j, okN l w) ∧ ∀ x ∈ l.drop (i + 1), okL x ∧ ∀ w ∈ x.f1, okN l w) := by
      intro c
      induction c with
      | zero =>
        intro j hc hj
        obtain ⟨b, hb, hi3⟩ := ih (i + 1) (by omega) (by omega)
        refine ⟨b, ?_, by rw [List.drop_eq_nil_of_le (show (l[i]).f1.length ≤ j by omega)]; simpa using hi3⟩
        refine Ev.step (fun k => by simp only [spec_LocksOk.l1]; rfl) ?_
        refine evPos (by omega) (evPos (by omega) ?_)
        rw [rdK l i hi2, e ()]
        exact evNeg (by omega) hb
      | succ c ihc =>
        intro j hc hj
        have hj2 : j < (l[i]).f1.length := by omega
        have ej : Unit → wrap64 ((j : Int) + 1) = ((j + 1 : Nat) : Int) := fun _ => by rw [wr _ (by omega) (by omega)]; omega
        obtain ⟨o, s, _, hs, _⟩ := chB_ev l hl ((l[i]).f1[j])
        have head : ∀ r, (okN l (l[i]).f1[j] → Ev (fun k => spec_LocksOk.l1 k l (i : Int) ((j + 1 : Nat) : Int)) r) → (¬ okN l (l[i]).f1[j] → r = false) → Ev (fun k => spec_LocksOk.l1 k l (i : Int) (j : Int)) r := by
          intro r hr hf2
          refine Ev.step (fun k => by simp only [spec_LocksOk.l1]; rfl) ?_
          refine evPos (by omega) (evPos (by omega) ?_)
          rw [rdK l i hi2]
          refine evPos (by omega) (evPos (by omega) ?_)
          rw [rd_at _ j hj2, ej ()]
          refine Ev.bind hs ?_
          simp only [sin_eq, Option.bind_some]
          by_cases h1 : 1 ≤ (l[i]).f1[j] ∧ (l[i]).f1[j] ≤ 1000
          · refine evPos (decide_eq_true h1) (Ev.bind (waits_ev l hl _) ?_)
            by_cases h2 : (allW l).count (l[i]).f1[j] = 1
            · refine evPos (by omega) ?_
              by_cases h3 : chB l (l[i]).f1[j] = true
              · exact evPos h3 (hr ⟨h1, h2, h3⟩)
              · rw [hf2 fun z => h3 z.2.2]
                exact evNeg h3 (Ev.now _)
            · rw [hf2 fun z => h2 z.2.1]
              exact evNeg (by omega) (Ev.now _)
          · rw [hf2 fun z => h1 z.1]
            exact evNeg (by rw [decide_eq_true_eq]; exact h1) (Ev.now _)
        by_cases h : okN l (l[i]).f1[j]
        · obtain ⟨b, hb, hx⟩ := ihc (j + 1) (by omega) (by omega)
          refine ⟨b, head b (fun _ => hb) (fun z => absurd h z), hx.trans ?_⟩
          rw [List.drop_eq_getElem_cons hj2, List.forall_mem_cons]
          exact ⟨fun z => ⟨⟨h, z.1⟩, z.2⟩, fun z => ⟨z.1.2, z.2⟩⟩
        · refine ⟨false, head false (fun z => absurd z h) (fun _ => rfl), ?_⟩
          rw [List.drop_eq_getElem_cons hj2, List.forall_mem_cons]
          exact ⟨fun z => absurd z (by decide), fun z => absurd z.1.1 h⟩
    rw [List.drop_eq_getElem_cons hi2, List.forall_mem_cons]
    obtain ⟨b, hb, hx⟩ := inner (l[i]).f1.length 0 (by omega) (by omega)
    have bad : ¬ okL l[i] → Ev (fun k => spec_LocksOk.j1 k l (i : Int) true) false := by
      intro _
      refine Ev.step (fun k => by simp only [spec_LocksOk.j1]; rfl) ?_
      exact evPos trivial (Ev.now _)
    have good : Ev (fun k => spec_LocksOk.j1 k l (i : Int) false) b := by
      refine Ev.step (fun k => by simp only [spec_LocksOk.j1]; rfl) ?_
      exact evNeg (by decide) hb
    have top : ∀ r (c : Bool), Ev (fun k => spec_LocksOk.j1 k l (i : Int) c) r → (spec_l1In.f (l[i]).f0 0 1000 = some true ∧ ((l[i]).f0 = 0 ∧ c = decide (((l[i]).f1.length : Int) > 0) ∨ (l[i]).f0 ≠ 0 ∧ c = false) ∨ spec_l1In.f (l[i]).f0 0 1000 = some false ∧ c = true) → Ev (fun k => spec_LocksOk.l0 k l (i : Int)) r := by
      intro r c hr hc
      refine Ev.step (fun k => by simp only [spec_LocksOk.l0]; rfl) ?_
      refine evPos (by omega) (evPos (by omega) ?_)
      rw [rdK l i hi2]
      rcases hc with ⟨q, hc⟩ | ⟨q, hc⟩
      · rw [q]
        simp only [Option.bind_some]
        refine evPos trivial ?_
        rcases hc with ⟨z, hc⟩ | ⟨z, hc⟩
        · refine evPos z ?_
          rw [← hc]
          exact hr
        · refine evNeg z ?_
          rw [← hc]
          exact hr
      · rw [q]
        simp only [Option.bind_some]
        refine evNeg (by decide) ?_
        rw [← hc]
        exact hr
    rw [List.drop_zero] at hx
    by_cases h : okL l[i]
    · refine ⟨b, top b false good (.inl ⟨by rw [sin_eq]; exact congrArg some (decide_eq_true h.1), ?_⟩), hx.trans ⟨fun z => ⟨⟨h, z.1⟩, z.2⟩, fun z => ⟨z.1.2, z.2⟩⟩⟩
      by_cases h0 : (l[i]).f0 = 0
      · have := h.2 h0
        exact .inl ⟨h0, (decide_eq_false (by omega)).symm⟩
      · exact .inr ⟨h0, rfl⟩
    · refine ⟨false, top false true (bad h) ?_, ⟨fun z => absurd z (by decide), fun z => absurd z.1.1 h⟩⟩
      by_cases h1 : 0 ≤ (l[i]).f0 ∧ (l[i]).f0 ≤ 1000
      · by_cases h0 : (l[i]).f0 = 0
        · refine .inl ⟨by rw [sin_eq]; exact congrArg some (decide_eq_true h1), .inl ⟨h0, (decide_eq_true ?_).symm⟩⟩
          exact Classical.byContradiction fun z => h ⟨h1, fun _ => by omega⟩
        · exact absurd ⟨h1, fun z => absurd z h0⟩ h
      · exact .inr ⟨by rw [sin_eq]; exact congrArg some (decide_eq_false h1), rfl⟩
theorem sLocks_ev (l : List S41) (hl : shortK l) : ∃ b, Ev (fun k => spec_LocksOk.f k l) b ∧ (b = true ↔ l.length ≤ 5 ∧ ∀ x ∈ l, okL x ∧ ∀ w ∈ x.f1, okN l w) := by
  by_cases h : (l.length : Int) > 5
  · refine ⟨false, ?_, ⟨fun z => absurd z (by decide), fun z => absurd z.1 (by omega)⟩⟩
    unfold spec_LocksOk.f
    exact evPos h (Ev.now _)
  · obtain ⟨b, hb, hx⟩ := sLocks_loop l hl l.length 0 (by omega) (by omega)
    refine ⟨b, ?_, ?_⟩
    · unfold spec_LocksOk.f
      exact evNeg h hb
    · rw [List.drop_zero] at hx
      exact hx.trans ⟨fun z => ⟨by omega, z⟩, fun z => z.2⟩
theorem locks_ev (l : List S41) (hl : shortK l) : ∃ b, Ev (fun k => spec_LocksOk.f k l) b ∧ Ev (fun k => impl_LocksOk.f k l) b ∧ (b = true ↔ l.length ≤ 5 ∧ ∀ x ∈ l, okL x ∧ ∀ w ∈ x.f1, okN l w) := by
  obtain ⟨b, hb, hq⟩ := sLocks_ev l hl
  obtain ⟨c, hc, hr⟩ := iLocks_loop l hl l.length 0 [] (by omega) (by omega) (by simp) (by simp)
  have hc2 : Ev (fun k => impl_LocksOk.f k l) c := hc
  rw [List.drop_zero] at hr
  have hw : ∀ w, w ∈ allW l ↔ ∃ x ∈ l, w ∈ x.f1 := fun w => List.mem_flatMap
  have : b = c := by
    refine Bool.eq_iff_iff.2 (hq.trans (Iff.trans ?_ hr.symm))
    unfold restI okN
    rw [List.nil_append, nodup_count]
    constructor
    · rintro ⟨h5, h⟩
      refine ⟨fun x hx => (h x hx).1, fun w hw2 => ?_, fun w hw2 => ?_, fun w hw2 => ?_, h5⟩
      · obtain ⟨x, hx, m⟩ := (hw w).1 hw2
        exact ((h x hx).2 w m).1
      · obtain ⟨x, hx, m⟩ := (hw w).1 hw2
        exact ((h x hx).2 w m).2.1
      · obtain ⟨x, hx, m⟩ := (hw w).1 hw2
        exact ((h x hx).2 w m).2.2
    · rintro ⟨h1, h2, h3, h4, h5⟩
      refine ⟨h5, fun x hx => ⟨h1 x hx, fun w m => ?_⟩⟩
      have hm := (hw w).2 ⟨x, hx, m⟩
      exact ⟨h2 w hm, h3 w hm, h4 w hm⟩
  rw [← this] at hc2
  exact ⟨b, hb, hc2, hq⟩
/-! Lists of tasks: what is read of them. -/
theorem rdT (l : List S32) (i : Nat) (h : i < l.length) : rd_T32 l (i : Int) = l[i] := by
  unfold rd_T32
  rw [Int.toNat_natCast, List.getD_eq_getElem?_getD, List.getElem?_eq_getElem h, Option.getD_some]
theorem tsFrom_end (l : List S32) (i : Nat) (h : ¬ i < l.length) : tsFrom l i ↔ l.length ≤ 12 := ⟨fun x => x.2, fun x => ⟨fun j hj hl => absurd hl (by omega), x⟩⟩
theorem tsFrom_step (l : List S32) (i : Nat) (h : i < l.length) : tsFrom l i ↔ (tOk l[i] ∧ (0 < i → (l[i - 1]).f0 < (l[i]).f0)) ∧ tsFrom l (i + 1) := by
  constructor
  · intro x
    exact ⟨x.1 i (Nat.le_refl _) h, fun j hj hl => x.1 j (by omega) hl, x.2⟩
  · intro x
    refine ⟨fun j hj hl => ?_, x.2.2⟩
    by_cases e : j = i
    · subst e
      exact x.1
    · exact x.2.1 j (by omega) hl
theorem sTasksOk_loop (l : List S32) (hl : l.length ≤ 1048576000) : ∀ (k i : Nat), l.length - i < k → spec_TasksOk.l0 k l (i : Int) = some (decide (tsFrom l i)) := by
  intro k
  induction k with
  | zero => intro i h; omega
  | succ k ih =>
    intro i h
    simp only [spec_TasksOk.l0, spec_TaskOk.f, Option.bind_some]
    by_cases hi : i < l.length
    · rw [if_pos (by omega), if_pos (by omega), rdT l i hi, wr ((i : Int) + 1) (by omega) (by omega)]
      have es := tsFrom_step l i hi
      by_cases ht : tOk l[i]
      · rw [show decide (TaskP (l[i]).f0 (l[i]).f1 (l[i]).f2 (l[i]).f3 (l[i]).f5 (l[i]).f6 (l[i]).f7 (l[i]).f8 (l[i]).f9 (l[i]).f10 (l[i]).f11 (l[i]).f12 (l[i]).f13) = true from decide_eq_true ht, if_pos rfl]
        have en := ih (i + 1) (by omega)
        by_cases h0 : 0 < i
        · rw [if_pos (by omega), wr ((i : Int) - 1) (by omega) (by omega), if_pos (by omega), if_pos (by omega), show (i : Int) - 1 = ((i - 1 : Nat) : Int) by omega, rdT l (i - 1) (by omega)]
          by_cases hc : (l[i - 1]).f0 ≥ (l[i]).f0
          · rw [if_pos hc]
            exact congrArg some (decide_eq_false fun x => by have := (es.1 x).1.2 h0; omega).symm
          · rw [if_neg hc]
            refine en.trans (congrArg some (decide_eq_decide.2 ?_))
            exact ⟨fun x => es.2 ⟨⟨ht, fun _ => by omega⟩, x⟩, fun x => (es.1 x).2⟩
        · rw [if_neg (by omega)]
          refine en.trans (congrArg some (decide_eq_decide.2 ?_))
          exact ⟨fun x => es.2 ⟨⟨ht, fun z => absurd z h0⟩, x⟩, fun x => (es.1 x).2⟩
      · rw [show decide (TaskP (l[i]).f0 (l[i]).f1 (l[i]).f2 (l[i]).f3 (l[i]).f5 (l[i]).f6 (l[i]).f7 (l[i]).f8 (l[i]).f9 (l[i]).f10 (l[i]).f11 (l[i]).f12 (l[i]).f13) = false from decide_eq_false ht, if_neg (by decide)]
        exact congrArg some (decide_eq_false fun x => ht (es.1 x).1.1).symm
    · rw [if_neg (by omega)]
      refine congrArg some (decide_eq_decide.2 ?_)
      rw [tsFrom_end l i hi]
      omega
theorem sTasksOk_ev (l : List S32) (hl : l.length ≤ 1048576000) : Ev (fun k => spec_TasksOk.f k l) (decide (tsFrom l 0)) := by
  refine Ev.of (fun k => spec_TasksOk.mono l k) (k := l.length + 1) ?_
  unfold spec_TasksOk.f
  exact sTasksOk_loop l hl (l.length + 1) 0 (by omega)
theorem both_ev {α : Type} (T : List S32) (hT : T.length ≤ 1048576000) (l : List S41) (hl : shortK l) (f : Nat → Option α) (z : α) : (bothOk T l → ∀ r, Ev f r → Ev (fun k => (spec_TasksOk.f k T).bind fun t101 => (if t101 = true then ((spec_LocksOk.f k l).bind fun t102 => (if t102 = true then ((f k).bind fun t103 => (some t103)) else (some z))) else (some z))) r) ∧ (¬ bothOk T l → Ev (fun k => (spec_TasksOk.f k T).bind fun t101 => (if t101 = true then ((spec_LocksOk.f k l).bind fun t102 => (if t102 = true then ((f k).bind fun t103 => (some t103)) else (some z))) else (some z))) z) := by
  obtain ⟨b, hb, _, hq⟩ := locks_ev l hl
  have ht := sTasksOk_ev T hT
  constructor
  · intro h r hr
    refine Ev.bind ht (evPos (decide_eq_true h.1) (Ev.bind hb (evPos (hq.2 h.2) (Ev.bind hr (Ev.now _)))))
  · intro h
    refine Ev.bind ht ?_
    by_cases h1 : tsFrom T 0
    · refine evPos (decide_eq_true h1) (Ev.bind hb (evNeg (fun z => h ⟨h1, hq.1 z⟩) (Ev.now _)))
    · exact evNeg (by rw [decide_eq_true_eq]; exact h1) (Ev.now _)
/-! A task as one value, and who stands ahead of whom. -/
structure Tk where
  (f0 f1 f2 f3 : Int)
  f4 : Bool
  (f5 f6 f7 f8 f9 f10 f11 f12 f13 : Int)
def Tk.ok (t : Tk) : Prop := TaskP t.f0 t.f1 t.f2 t.f3 t.f5 t.f6 t.f7 t.f8 t.f9 t.f10 t.f11 t.f12 t.f13
instance (t : Tk) : Decidable (Tk.ok t) := by unfold Tk.ok; infer_instance
def dueLt (a b : Tk) : Prop := (Tk.ok a ∧ a.f1 = 1) ∧ (Tk.ok b ∧ b.f1 = 1) ∧ (a.f8 < b.f8 ∨ a.f8 = b.f8 ∧ a.f0 < b.f0)
instance (a b : Tk) : Decidable (dueLt a b) := by unfold dueLt; infer_instance
def fairLt (a b : Tk) : Prop := (Tk.ok a ∧ a.f1 = 3) ∧ (Tk.ok b ∧ b.f1 = 3) ∧ (a.f13 < b.f13 ∨ a.f13 = b.f13 ∧ a.f0 < b.f0)
instance (a b : Tk) : Decidable (fairLt a b) := by unfold fairLt; infer_instance
def fixLt (a b : Tk) : Prop := (Tk.ok a ∧ a.f1 = 2) ∧ (Tk.ok b ∧ b.f1 = 2) ∧ (a.f9 > b.f9 ∨ a.f9 = b.f9 ∧ (a.f11 < b.f11 ∨ a.f11 = b.f11 ∧ a.f0 < b.f0))
instance (a b : Tk) : Decidable (fixLt a b) := by unfold fixLt; infer_instance
def before (a b : Tk) : Prop := Tk.ok a ∧ Tk.ok b ∧ (a.f1 < b.f1 ∨ dueLt a b ∨ fixLt a b ∨ fairLt a b)
instance (a b : Tk) : Decidable (before a b) := by unfold before; infer_instance
/-- The chain of a number: each the owner of what the one before waits for; the last waits for nothing. -/
def IsChain (l : List S41) : Int → List Int → Prop
  | _, [] => False
  | no, x :: o => x = no ∧ ((o = [] ∧ waitAt l no < 0) ∨ (0 ≤ waitAt l no ∧ IsChain l (ownK l no) o))
theorem chain_part (l : List S41) : ∀ (o : List Int) (no x : Int), IsChain l no o → x ∈ o → ∃ p s, o = p ++ s ∧ IsChain l x s := by
  intro o
  induction o with
  | nil => intro no x h; exact absurd h (by simp [IsChain])
  | cons y r ih =>
    intro no x h hx
    by_cases e : x = y
    · refine ⟨[], y :: r, rfl, ?_⟩
      have := (by simpa only [IsChain] using h : y = no ∧ _).1
      rw [e, this]
      rw [this] at h
      exact h
    · have hx := (List.mem_cons.1 hx).resolve_left e
      simp only [IsChain] at h
      rcases h.2 with ⟨h2, _⟩ | ⟨_, h2⟩
      · rw [h2] at hx
        exact absurd hx (by simp)
      · obtain ⟨p, s, q, g⟩ := ih _ x h2 hx
        exact ⟨y :: p, s, by rw [q]; rfl, g⟩
theorem chain_uniq (l : List S41) : ∀ (o o2 : List Int) (no : Int), IsChain l no o → IsChain l no o2 → o = o2 := by
  intro o
  induction o with
  | nil => intro o2 no h _; exact absurd h (by simp [IsChain])
  | cons x r ih =>
    intro o2 no h g
    cases o2 with
    | nil => exact absurd g (by simp [IsChain])
    | cons y s =>
      simp only [IsChain] at h g
      obtain ⟨rfl, h⟩ := h
      obtain ⟨rfl, g⟩ := g
      rcases h with ⟨rfl, h⟩ | ⟨h, h2⟩
      · rcases g with ⟨rfl, _⟩ | ⟨g, _⟩
        · rfl
        · omega
      · rcases g with ⟨_, g⟩ | ⟨_, g⟩
        · omega
        · rw [ih s _ h2 g]
theorem chain_nodup (l : List S41) : ∀ (o : List Int) (no : Int), IsChain l no o → o.Nodup := by
  intro o
  induction o with
  | nil => intro no _; exact List.nodup_nil
  | cons y r ih =>
    intro no h
    have h0 := h
    simp only [IsChain] at h
    obtain ⟨rfl, h⟩ := h
    rcases h with ⟨rfl, _⟩ | ⟨_, h2⟩
    · simp
    · refine List.nodup_cons.2 ⟨fun hm => ?_, ih _ h2⟩
      obtain ⟨p, s, q, g⟩ := chain_part l r _ y h2 hm
      have e := chain_uniq l _ _ _ h0 g
      have := congrArg List.length e
      rw [q] at this
      simp at this
      omega
theorem chain_head (l : List S41) (o : List Int) (no : Int) (h : IsChain l no o) : ∃ t, o = no :: t := by
  cases o with
  | nil => exact absurd h (by simp [IsChain])
  | cons x r =>
    simp only [IsChain] at h
    exact ⟨r, by rw [h.1]⟩
theorem chain_step (l : List S41) : ∀ (o : List Int) (no : Int), IsChain l no o → ∀ (i : Nat) (hi : i < o.length), (if h : i + 1 < o.length then 0 ≤ waitAt l o[i] ∧ ownK l o[i] = o[i + 1] else waitAt l o[i] < 0) := by
  intro o
  induction o with
  | nil => intro no h; exact absurd h (by simp [IsChain])
  | cons y r ih =>
    intro no h i hi
    simp only [IsChain] at h
    obtain ⟨rfl, h⟩ := h
    rcases h with ⟨rfl, h⟩ | ⟨h, h2⟩
    · have : i = 0 := by simpa using hi
      subst this
      simpa using h
    · cases i with
      | zero =>
        obtain ⟨t, ht⟩ := chain_head l r _ h2
        subst ht
        simpa using h
      | succ i =>
        have := ih _ h2 i (by simpa using hi)
        simpa using this
theorem chain_len (l : List S41) (o : List Int) (no : Int) (h : IsChain l no o) : o.length ≤ l.length + 1 := by
  have hn := chain_nodup l o no h
  have hs := chain_step l o no h
  have inj : ∀ i j (hi : i + 1 < o.length) (hj : j + 1 < o.length), waitAt l o[i] = waitAt l o[j] → i = j := by
    intro i j hi hj e
    have a := hs i (by omega)
    have b := hs j (by omega)
    rw [dif_pos hi] at a
    rw [dif_pos hj] at b
    have : o[i + 1] = o[j + 1] := by
      rw [← a.2, ← b.2]
      unfold ownK
      rw [e]
    have := (List.getElem_inj hn).1 this
    omega
  have := nat_nodup_le l.length ((List.range (o.length - 1)).map (fun i => (waitAt l (o.getD i 0)).toNat)) (by
    rw [List.nodup_iff_pairwise_ne, List.pairwise_map]
    refine List.Pairwise.imp_of_mem ?_ (List.nodup_range (n := o.length - 1))
    intro i j hi hj hij e
    rw [List.mem_range] at hi hj
    have a := hs i (by omega)
    have b := hs j (by omega)
    rw [dif_pos (by omega)] at a
    rw [dif_pos (by omega)] at b
    rw [List.getD_eq_getElem?_getD, List.getD_eq_getElem?_getD, List.getElem?_eq_getElem (by omega), List.getElem?_eq_getElem (by omega), Option.getD_some, Option.getD_some] at e
    exact hij (inj i j (by omega) (by omega) (by omega))) (by
    intro x hx
    obtain ⟨i, hi, rfl⟩ := List.mem_map.1 hx
    rw [List.mem_range] at hi
    have a := hs i (by omega)
    rw [dif_pos (by omega)] at a
    rw [List.getD_eq_getElem?_getD, List.getElem?_eq_getElem (by omega), Option.getD_some]
    have := (idxK l o[i]).resolve_left (by omega)
    omega)
  rw [List.length_map, List.length_range] at this
  omega
theorem chain_back (l : List S41) : ∀ (k : Nat) (no : Int) (out o : List Int), impl_chain.l0 k l no out = some (o, true) → ∃ t, o = out ++ t ∧ IsChain l no (no :: t) := by
  intro k
  induction k with
  | zero => intro no out o h; simp [impl_chain.l0] at h
  | succ k ih =>
    intro no out o h
    simp only [impl_chain.l0, impl_WaitAt.f, Option.bind_some] at h
    by_cases c1 : waitAt l no < 0
    · rw [if_pos (show idxF _ _ _ < 0 from c1)] at h
      have := (Prod.mk.inj (Option.some.inj h)).1
      exact ⟨[], by rw [this, List.append_nil], by simp only [IsChain]; exact ⟨trivial, .inl ⟨trivial, c1⟩⟩⟩
    · rw [if_neg (show ¬ idxF _ _ _ < 0 from c1)] at h
      have c2 : 0 ≤ waitAt l no := by omega
      have c3 := ((idxK l no).resolve_left (by omega)).2
      rw [if_pos (show 0 ≤ idxF _ _ _ from c2), if_pos (show idxF _ _ _ < _ from c3)] at h
      obtain ⟨b, _, h⟩ := Option.bind_eq_some_iff.1 h
      cases b with
      | true => simp at h
      | false =>
        rw [if_neg (by decide)] at h
        split at h
        · obtain ⟨t, e, g⟩ := ih _ _ _ h
          refine ⟨ownK l no :: t, by rw [e, List.append_assoc]; rfl, ?_⟩
          rw [IsChain]
          exact ⟨rfl, .inr ⟨c2, g⟩⟩
        · simp at h
theorem iChain_run (l : List S41) (hl : shortK l) : ∀ (o : List Int) (pre : List Int) (no : Int), IsChain l no o → (pre ++ o).Nodup → (pre ++ o).length ≤ 1048576000 → Ev (fun k => impl_chain.l0 k l no (pre ++ [no])) (pre ++ o, true) := by
  have hl1 := hl.1
  intro o
  induction o with
  | nil => intro pre no h; exact absurd h (by simp [IsChain])
  | cons y r ih =>
    intro pre no h hn hb
    simp only [IsChain] at h
    obtain ⟨rfl, h⟩ := h
    refine Ev.step (fun k => by simp only [impl_chain.l0, impl_WaitAt.f, Option.bind_some]; rfl) ?_
    rcases h with ⟨rfl, h⟩ | ⟨h, h2⟩
    · exact evPos (show waitAt l y < 0 from h) (Ev.now _)
    · have hlt := (idxK l y).resolve_left (by omega)
      obtain ⟨t, ht⟩ := chain_head l r _ h2
      have e : pre ++ y :: r = pre ++ [y] ++ r := by rw [List.append_assoc]; rfl
      rw [e] at hn hb ⊢
      have hc : ownK l y ∉ pre ++ [y] := by
        intro hm
        rw [List.nodup_append] at hn
        exact hn.2.2 _ hm _ (by rw [ht]; simp) rfl
      have hb2 := hb
      rw [List.length_append] at hb2
      refine evNeg (show ¬ waitAt l y < 0 by omega) (evPos h (evPos hlt.2 (Ev.bind (cont_ev _ (by omega) _) ?_)))
      refine evNeg (by rw [decide_eq_true_eq]; exact hc) (evPos (by omega) ?_)
      exact ih (pre ++ [y]) _ h2 hn hb
theorem chain_ok (l : List S41) (hl : shortK l) (no : Int) : chB l no = true ↔ ∃ o, IsChain l no o := by
  obtain ⟨o, s, h1, _, _, h4, h5⟩ := chB_ev l hl no
  constructor
  · intro hb
    rw [hb] at h1
    obtain ⟨k, hk⟩ := h1
    have := hk k (Nat.le_refl _)
    obtain ⟨t, _, g⟩ := chain_back l k no [no] o this
    exact ⟨_, g⟩
  · rintro ⟨o2, h2⟩
    have hl1 := hl.1
    have hq := chain_len l o2 no h2
    have h6 : Ev (fun k => impl_chain.f k l no) (o2, true) := iChain_run l hl o2 [] no h2 (chain_nodup l o2 no h2) (by simp only [List.nil_append]; omega)
    have := ev_one h1 h6
    exact (Prod.mk.inj this).2
/-- What both chains answer where there is a chain. -/
theorem chain_both (l : List S41) (hl : shortK l) (no : Int) (o : List Int) (h : IsChain l no o) : Ev (fun k => impl_chain.f k l no) (o, true) ∧ Ev (fun k => spec_l7Chain.f k l no) (o, true) := by
  obtain ⟨o2, s, h1, h2, h3, _, _⟩ := chB_ev l hl no
  have hb := (chain_ok l hl no).2 ⟨o, h⟩
  have hl1 := hl.1
  have hq := chain_len l o no h
  have h6 : Ev (fun k => impl_chain.f k l no) (o, true) := iChain_run l hl o [] no h (chain_nodup l o no h) (by simp only [List.nil_append]; omega)
  refine ⟨h6, ?_⟩
  have := (Prod.mk.inj (ev_one h1 h6)).1
  rw [hb, h3 hb, this] at h2
  exact h2
/-- Where a task stands. -/
def tAt (T : List S32) (v : Int) : Int := idxF (fun t => t.f0 == v) T 0
theorem execL_loop (T : List S32) (hT : T.length ≤ 1048576000) (x : List Int) (hx : x.length ≤ 1048577) (h0 : 0 < x.length) : ∀ (d i : Nat), x.length - i = d → i ≤ x.length → (∀ v ∈ x.take i, 0 ≤ tAt T v) → ∃ r, Ev (fun k => impl_executor.l0 k T x x (x.length : Int) (i : Int)) r ∧ (r = 0 ∨ (∀ v ∈ x, 0 ≤ tAt T v) ∧ r = x[x.length - 1]) := by
  have e1 : wrap64 ((x.length : Int) - 1) = ((x.length - 1 : Nat) : Int) := by rw [wr _ (by omega) (by omega)]; omega
  have hl : x.length - 1 < x.length := by omega
  intro d
  induction d with
  | zero =>
    intro i hd hi hv
    rw [List.take_of_length_le (by clear e1; omega)] at hv
    have r1 : rd x ((x.length - 1 : Nat) : Int) = x[x.length - 1] := rd_at x _ hl
    refine ⟨x[x.length - 1], ?_, .inr ⟨hv, rfl⟩⟩
    refine Ev.step (fun k => by simp only [impl_executor.l0]; rfl) ?_
    refine evNeg (by clear e1; omega) ?_
    rw [e1, r1]
    exact evPos (by clear e1; omega) (evPos (by clear e1; omega) (Ev.now _))
  | succ d ih =>
    intro i hd hi hv
    have hi2 : i < x.length := by clear e1; omega
    have p0 : (0 : Int) ≤ (i : Int) := by clear e1; omega
    have p1 : (i : Int) < (x.length : Int) := by clear e1; omega
    have e : wrap64 ((i : Int) + 1) = ((i + 1 : Nat) : Int) := by clear e1; rw [wr _ (by omega) (by omega)]; omega
    by_cases h : tAt T x[i] < 0
    · refine ⟨0, ?_, .inl rfl⟩
      refine Ev.step (fun k => by simp only [impl_executor.l0, impl_TaskAt.f, Option.bind_some]; rfl) ?_
      refine evPos p1 (evPos p0 (evPos p1 ?_))
      rw [rd_at x i hi2]
      exact evPos h (Ev.now _)
    · have hn : ∀ v ∈ x.take (i + 1), 0 ≤ tAt T v := by
        intro v hm
        rw [List.take_succ_eq_append_getElem hi2, List.mem_append, List.mem_singleton] at hm
        rcases hm with hm | hm
        · exact hv v hm
        · rw [hm]
          exact Int.not_lt.1 h
      obtain ⟨r, h2, h3⟩ := ih (i + 1) (by clear e1 e; omega) hi2 hn
      refine ⟨r, ?_, h3⟩
      refine Ev.step (fun k => by simp only [impl_executor.l0, impl_TaskAt.f, Option.bind_some]; rfl) ?_
      refine evPos p1 (evPos p0 (evPos p1 ?_))
      rw [rd_at x i hi2, e]
      exact evNeg h h2
theorem chB_all (l : List S41) (hl : shortK l) (h : ∀ x ∈ l, okL x ∧ ∀ w ∈ x.f1, okN l w) (no : Int) : chB l no = true := by
  rcases idxF_find (fun t : S41 => decide (no ∈ t.f1)) l 0 with ⟨e, _⟩ | ⟨j, hj, _, g⟩
  · obtain ⟨o, s, h1, _⟩ := chB_ev l hl no
    have h2 : Ev (fun k => impl_chain.f k l no) ([no], true) := by
      unfold impl_chain.f
      refine Ev.step (fun k => by simp only [impl_chain.l0, impl_WaitAt.f, Option.bind_some]; rfl) ?_
      exact evPos (show waitAt l no < 0 by unfold waitAt; rw [e]; decide) (Ev.now _)
    have := ev_one h1 h2
    exact (Prod.mk.inj this).2
  · have hm : no ∈ (l[j]).f1 := by simpa using g
    exact ((h _ (List.getElem_mem hj)).2 no hm).2.2
theorem sTaskAt_loop (l : List S32) (no : Int) (hl : l.length ≤ 1048576000) : ∀ (k i : Nat), l.length - i < k → spec_TaskAt.l0 k l no (i : Int) = some (idxF (fun t => t.f0 == no) (l.drop i) (i : Int)) := by
  intro k
  induction k with
  | zero => intro i h; omega
  | succ k ih =>
    intro i h
    simp only [spec_TaskAt.l0]
    by_cases hi : i < l.length
    · rw [if_pos (by omega), if_pos (by omega), rdT l i hi, wr ((i : Int) + 1) (by omega) (by omega), List.drop_eq_getElem_cons hi, idxF]
      by_cases e : (l[i]).f0 = no
      · rw [if_pos e, if_pos (by simp [e])]
      · rw [if_neg e, if_neg (by simp [e])]
        exact ih (i + 1) (by omega)
    · rw [if_neg (by omega), List.drop_eq_nil_of_le (by omega), idxF]
theorem sTaskAt_ev (l : List S32) (hl : l.length ≤ 1048576000) (no : Int) : Ev (fun k => spec_TaskAt.f k l no) (idxF (fun t => t.f0 == no) l 0) := by
  refine Ev.of (fun k => spec_TaskAt.mono l no k) (k := l.length + 1) ?_
  unfold spec_TaskAt.f
  exact sTaskAt_loop l no hl (l.length + 1) 0 (by omega)
theorem exec_loop (T : List S32) (hT : T.length ≤ 1048576000) (x : List Int) (hx : x.length ≤ 1048577) (h0 : 0 < x.length) : ∀ (d i : Nat), x.length - i = d → i ≤ x.length → (∀ v ∈ x.take i, 0 ≤ tAt T v) → ∃ r, Ev (fun k => spec_l8Executor.l0 k T x (i : Int)) r ∧ Ev (fun k => impl_executor.l0 k T x x (x.length : Int) (i : Int)) r ∧ (r = 0 ∨ (∀ v ∈ x, 0 ≤ tAt T v) ∧ r ∈ x) := by
  have e1 : wrap64 ((x.length : Int) - 1) = ((x.length - 1 : Nat) : Int) := by rw [wr _ (by omega) (by omega)]; omega
  have hl : x.length - 1 < x.length := by omega
  intro d
  induction d with
  | zero =>
    intro i hd hi hv
    rw [List.take_of_length_le (by clear e1; omega)] at hv
    have r1 : rd x ((x.length - 1 : Nat) : Int) = x[x.length - 1] := rd_at x _ hl
    refine ⟨x[x.length - 1], ?_, ?_, .inr ⟨hv, List.getElem_mem hl⟩⟩
    · refine Ev.step (fun k => by simp only [spec_l8Executor.l0]; rfl) ?_
      refine evNeg (by clear e1; omega) ?_
      rw [e1, r1]
      exact evPos (by clear e1; omega) (evPos (by clear e1; omega) (Ev.now _))
    · refine Ev.step (fun k => by simp only [impl_executor.l0]; rfl) ?_
      refine evNeg (by clear e1; omega) ?_
      rw [e1, r1]
      exact evPos (by clear e1; omega) (evPos (by clear e1; omega) (Ev.now _))
  | succ d ih =>
    intro i hd hi hv
    have hi2 : i < x.length := by clear e1; omega
    have p0 : (0 : Int) ≤ (i : Int) := by clear e1; omega
    have p1 : (i : Int) < (x.length : Int) := by clear e1; omega
    have e : wrap64 ((i : Int) + 1) = ((i + 1 : Nat) : Int) := by clear e1; rw [wr _ (by omega) (by omega)]; omega
    have st := sTaskAt_ev T hT (x[i])
    by_cases h : tAt T x[i] < 0
    · refine ⟨0, ?_, ?_, .inl rfl⟩
      · refine Ev.step (fun k => by simp only [spec_l8Executor.l0]; rfl) ?_
        refine evPos p1 (evPos p0 ?_)
        rw [rd_at x i hi2]
        exact Ev.bind st (evPos h (Ev.now _))
      · refine Ev.step (fun k => by simp only [impl_executor.l0, impl_TaskAt.f, Option.bind_some]; rfl) ?_
        refine evPos p1 (evPos p0 (evPos p1 ?_))
        rw [rd_at x i hi2]
        exact evPos h (Ev.now _)
    · have hn : ∀ v ∈ x.take (i + 1), 0 ≤ tAt T v := by
        intro v hm
        rw [List.take_succ_eq_append_getElem hi2, List.mem_append, List.mem_singleton] at hm
        rcases hm with hm | hm
        · exact hv v hm
        · rw [hm]
          exact Int.not_lt.1 h
      obtain ⟨r, h1, h2, h3⟩ := ih (i + 1) (by clear e1 e; omega) hi2 hn
      refine ⟨r, ?_, ?_, h3⟩
      · refine Ev.step (fun k => by simp only [spec_l8Executor.l0]; rfl) ?_
        refine evPos p1 (evPos p0 ?_)
        rw [rd_at x i hi2, e]
        exact Ev.bind st (evNeg h h1)
      · refine Ev.step (fun k => by simp only [impl_executor.l0, impl_TaskAt.f, Option.bind_some]; rfl) ?_
        refine evPos p1 (evPos p0 (evPos p1 ?_))
        rw [rd_at x i hi2, e]
        exact evNeg h h2
theorem executor_ev (T : List S32) (hT : T.length ≤ 1048576000) (l : List S41) (hl : shortK l) (h : ∀ x ∈ l, okL x ∧ ∀ w ∈ x.f1, okN l w) (no : Int) : ∃ r, Ev (fun k => spec_l8Executor.f k T l no) r ∧ Ev (fun k => impl_executor.f k T l no) r ∧ (r = 0 ∨ 0 ≤ tAt T no ∧ 0 ≤ tAt T r) := by
  obtain ⟨o, s, h1, h2, h3, _, h5⟩ := chB_ev l hl no
  have hb := chB_all l hl h no
  rw [hb] at h1 h2
  rw [h3 hb] at h2
  obtain ⟨h6, t, ht⟩ := h5 hb
  have hl1 := hl.1
  obtain ⟨r, r1, r2, r3⟩ := exec_loop T hT o (by omega) (by rw [ht]; simp) o.length 0 (by omega) (by omega) (by simp)
  refine ⟨r, ?_, ?_, ?_⟩
  · unfold spec_l8Executor.f
    exact Ev.bind h2 r1
  · unfold impl_executor.f
    exact Ev.bind h1 r2
  · rcases r3 with r3 | ⟨r3, r4⟩
    · exact .inl r3
    · exact .inr ⟨r3 no (by rw [ht]; simp), r3 r r4⟩
theorem iTasksOk_loop (l : List S32) (hl : l.length ≤ 1048576000) : ∀ (k i : Nat), l.length - i < k → impl_TasksOk.l0 k l l (l.length : Int) (i : Int) = some (decide (tsFrom l i)) := by
  intro k
  induction k with
  | zero => intro i h; omega
  | succ k ih =>
    intro i h
    simp only [impl_TasksOk.l0, impl_TaskOk.f, Option.bind_some]
    by_cases hi : i < l.length
    · rw [if_pos (by omega), if_pos (by omega), if_pos (by omega), rdT l i hi, wr ((i : Int) + 1) (by omega) (by omega)]
      have es := tsFrom_step l i hi
      by_cases ht : tOk l[i]
      · rw [show decide (TaskP (l[i]).f0 (l[i]).f1 (l[i]).f2 (l[i]).f3 (l[i]).f5 (l[i]).f6 (l[i]).f7 (l[i]).f8 (l[i]).f9 (l[i]).f10 (l[i]).f11 (l[i]).f12 (l[i]).f13) = true from decide_eq_true ht, if_pos rfl]
        have en := ih (i + 1) (by omega)
        by_cases h0 : 0 < i
        · rw [if_pos (by omega), wr ((i : Int) - 1) (by omega) (by omega), if_pos (by omega), if_pos (by omega), show (i : Int) - 1 = ((i - 1 : Nat) : Int) by omega, rdT l (i - 1) (by omega)]
          by_cases hc : (l[i - 1]).f0 ≥ (l[i]).f0
          · rw [if_pos hc]
            exact congrArg some (decide_eq_false fun x => by have := (es.1 x).1.2 h0; omega).symm
          · rw [if_neg hc]
            refine en.trans (congrArg some (decide_eq_decide.2 ?_))
            exact ⟨fun x => es.2 ⟨⟨ht, fun _ => by omega⟩, x⟩, fun x => (es.1 x).2⟩
        · rw [if_neg (by omega)]
          refine en.trans (congrArg some (decide_eq_decide.2 ?_))
          exact ⟨fun x => es.2 ⟨⟨ht, fun z => absurd z h0⟩, x⟩, fun x => (es.1 x).2⟩
      · rw [show decide (TaskP (l[i]).f0 (l[i]).f1 (l[i]).f2 (l[i]).f3 (l[i]).f5 (l[i]).f6 (l[i]).f7 (l[i]).f8 (l[i]).f9 (l[i]).f10 (l[i]).f11 (l[i]).f12 (l[i]).f13) = false from decide_eq_false ht, if_neg (by decide)]
        exact congrArg some (decide_eq_false fun x => ht (es.1 x).1.1).symm
    · rw [if_neg (by omega)]
      refine congrArg some (decide_eq_decide.2 ?_)
      rw [tsFrom_end l i hi]
      omega
theorem iTasksOk_ev (l : List S32) (hl : l.length ≤ 1048576000) : Ev (fun k => impl_TasksOk.f k l) (decide (tsFrom l 0)) := by
  refine Ev.of (fun k => impl_TasksOk.mono l k) (k := l.length + 1) ?_
  unfold impl_TasksOk.f
  exact iTasksOk_loop l hl (l.length + 1) 0 (by omega)
theorem iBoth_ev {α : Type} (T : List S32) (hT : T.length ≤ 1048576000) (l : List S41) (hl : shortK l) (f : Nat → Option α) (z : α) : (bothOk T l → ∀ r, Ev f r → Ev (fun k => (impl_TasksOk.f k T).bind fun t101 => (if t101 = true then ((impl_LocksOk.f k l).bind fun t102 => (if t102 = true then ((f k).bind fun t103 => (some t103)) else (some z))) else (some z))) r) ∧ (¬ bothOk T l → Ev (fun k => (impl_TasksOk.f k T).bind fun t101 => (if t101 = true then ((impl_LocksOk.f k l).bind fun t102 => (if t102 = true then ((f k).bind fun t103 => (some t103)) else (some z))) else (some z))) z) := by
  obtain ⟨b, _, hb, hq⟩ := locks_ev l hl
  have ht := iTasksOk_ev T hT
  constructor
  · intro h r hr
    refine Ev.bind ht (evPos (decide_eq_true h.1) (Ev.bind hb (evPos (hq.2 h.2) (Ev.bind hr (Ev.now _)))))
  · intro h
    refine Ev.bind ht ?_
    by_cases h1 : tsFrom T 0
    · refine evPos (decide_eq_true h1) (Ev.bind hb (evNeg (fun z => h ⟨h1, hq.1 z⟩) (Ev.now _)))
    · exact evNeg (by rw [decide_eq_true_eq]; exact h1) (Ev.now _)
/-- What LocksOk says. -/
def lkOk (l : List S41) : Prop := l.length ≤ 5 ∧ ∀ x ∈ l, okL x ∧ ∀ w ∈ x.f1, okN l w
theorem count_part (w : Int) (x : S41) : ∀ (l : List S41), x ∈ l → (x.f1).count w ≤ (allW l).count w := by
  intro l
  induction l with
  | nil => intro h; exact absurd h (by simp)
  | cons y r ih =>
    intro h
    rw [allW_cons, List.count_append]
    rcases List.mem_cons.1 h with rfl | h
    · omega
    · have := ih h
      omega
theorem lk_len (l : List S41) (h : lkOk l) (x : S41) (hx : x ∈ l) : (x.f1).length ≤ 1001 := by
  have hn : (x.f1).Nodup := by
    rw [nodup_count]
    intro w hw
    have a := count_part w x l hx
    have b := ((h.2 x hx).2 w hw).2.1
    have c := List.count_pos_iff.2 hw
    omega
  have hr : ∀ w ∈ x.f1, 1 ≤ w ∧ w ≤ 1000 := fun w hw => ((h.2 x hx).2 w hw).1
  have := nat_nodup_le 1001 ((x.f1).map Int.toNat) (by
    rw [List.nodup_iff_pairwise_ne, List.pairwise_map]
    refine List.Pairwise.imp_of_mem ?_ hn
    intro a b ha hb hab e
    have := hr a ha
    have := hr b hb
    exact hab (by omega)) (by
    intro i hi
    obtain ⟨w, hw, rfl⟩ := List.mem_map.1 hi
    have := hr w hw
    omega)
  rwa [List.length_map] at this
theorem lk_short (l : List S41) (h : lkOk l) : shortK l := ⟨by have := h.1; omega, fun x hx => by have := lk_len l h x hx; omega⟩
theorem lk_chain (l : List S41) (h : lkOk l) (no : Int) : ∃ o, IsChain l no o := (chain_ok l (lk_short l h) no).1 (chB_all l (lk_short l h) h.2 no)
theorem tAt_lt (T : List S32) (v : Int) (h : 0 ≤ tAt T v) : tAt T v < (T.length : Int) := by
  rcases idxF_find (fun t : S32 => t.f0 == v) T 0 with ⟨e, _⟩ | ⟨j, hj, e, _⟩
  · unfold tAt at h
    rw [e] at h
    omega
  · unfold tAt
    rw [e]
    omega
/-- What the three functions answer, one beside the other. -/
theorem able_all (T : List S32) (hT : T.length ≤ 1048576000) (l : List S41) (hl : shortK l) (no : Int) : ∃ (can able : Bool) (x : Int), (Ev (fun k => impl_CanTurn.f k T l no) can ∧ Ev (fun k => impl_Able.f k T l no) able ∧ Ev (fun k => impl_Executor.f k T l no) x) ∧ (Ev (fun k => spec_CanTurn.f k T l no) can ∧ Ev (fun k => spec_Able.f k T l no) able ∧ Ev (fun k => spec_Executor.f k T l no) x) ∧ (able = false → can = false) ∧
    (able = true → (0 ≤ tAt T no ∧ 0 ≤ tAt T x) ∧ ((rd_T32 T (tAt T no)).f3 = 1 ∧ (rd_T32 T (tAt T x)).f3 = 1) ∧ waitAt l x < 0 ∧ (waitAt l no < 0 → x = no) ∧ can = (if (rd_T32 T (tAt T no)).f1 = 1 then decide ((rd_T32 T (tAt T no)).f7 > 0) else true)) := by
  by_cases h : bothOk T l
  · have hk : lkOk l := h.2
    obtain ⟨o, ho⟩ := lk_chain l hk no
    have hq := chain_len l o no ho
    have hl1 := hl.1
    obtain ⟨t, ht⟩ := chain_head l o no ho
    have hp : 0 < o.length := by rw [ht]; simp
    obtain ⟨r, h1, h2, h3⟩ := executor_ev T hT l hl h.2.2 no
    obtain ⟨r2, g1, g2⟩ := execL_loop T hT o (by omega) hp o.length 0 (by omega) (by omega) (by simp)
    have g3 : Ev (fun k => impl_executor.f k T l no) r2 := by
      unfold impl_executor.f
      exact Ev.bind (chain_both l hl no o ho).1 g1
    have er : r = r2 := ev_one h2 g3
    subst er
    have x1 : Ev (fun k => impl_Executor.f k T l no) r := (iBoth_ev T hT l hl _ 0).1 h r h2
    have x2 : Ev (fun k => spec_Executor.f k T l no) r := (both_ev T hT l hl _ 0).1 h r h1
    have fin : ∀ (can able : Bool), Ev (fun k => spec_l8Able.f k T l no) able → Ev (fun k => impl_Able.f k T l no) able → Ev (fun k => spec_l8Can.f k T l no) can → Ev (fun k => impl_CanTurn.f k T l no) can → (Ev (fun k => impl_CanTurn.f k T l no) can ∧ Ev (fun k => impl_Able.f k T l no) able ∧ Ev (fun k => impl_Executor.f k T l no) r) ∧ (Ev (fun k => spec_CanTurn.f k T l no) can ∧ Ev (fun k => spec_Able.f k T l no) able ∧ Ev (fun k => spec_Executor.f k T l no) r) := fun can able a b c d => ⟨⟨d, b, x1⟩, (both_ev T hT l hl _ false).1 h can c, (both_ev T hT l hl _ false).1 h able a, x2⟩
    have canF : Ev (fun k => spec_l8Able.f k T l no) false → Ev (fun k => impl_Able.f k T l no) false → Ev (fun k => spec_l8Can.f k T l no) false ∧ Ev (fun k => impl_CanTurn.f k T l no) false := by
      intro a b
      unfold spec_l8Can.f impl_CanTurn.f
      exact ⟨Ev.bind a (evNeg (by decide) (Ev.now _)), Ev.bind b (evNeg (by decide) (Ev.now _))⟩
    have no_ : Ev (fun k => spec_l8Able.f k T l no) false → Ev (fun k => impl_Able.f k T l no) false → ∃ (can able : Bool) (x : Int), (Ev (fun k => impl_CanTurn.f k T l no) can ∧ Ev (fun k => impl_Able.f k T l no) able ∧ Ev (fun k => impl_Executor.f k T l no) x) ∧ (Ev (fun k => spec_CanTurn.f k T l no) can ∧ Ev (fun k => spec_Able.f k T l no) able ∧ Ev (fun k => spec_Executor.f k T l no) x) ∧ (able = false → can = false) ∧ (able = true → (0 ≤ tAt T no ∧ 0 ≤ tAt T x) ∧ ((rd_T32 T (tAt T no)).f3 = 1 ∧ (rd_T32 T (tAt T x)).f3 = 1) ∧ waitAt l x < 0 ∧ (waitAt l no < 0 → x = no) ∧ can = (if (rd_T32 T (tAt T no)).f1 = 1 then decide ((rd_T32 T (tAt T no)).f7 > 0) else true)) := by
      intro a b
      obtain ⟨c, d⟩ := canF a b
      obtain ⟨f1, f2⟩ := fin false false a b c d
      exact ⟨false, false, r, f1, f2, fun _ => rfl, fun z => absurd z (by decide)⟩
    by_cases hr : r = 0
    · refine no_ ?_ ?_
      · unfold spec_l8Able.f
        exact Ev.bind h1 (evPos hr (Ev.now _))
      · unfold impl_Able.f
        exact Ev.bind x1 (evPos hr (Ev.now _))
    · obtain ⟨k1, k2⟩ := h3.resolve_left hr
      have k3 := (g2.resolve_left hr).2
      have l1 := tAt_lt T no k1
      have l2 := tAt_lt T r k2
      have s1 := sTaskAt_ev T hT no
      have s2 := sTaskAt_ev T hT r
      by_cases hc : (rd_T32 T (tAt T no)).f3 = 1
      · have av : Ev (fun k => spec_l8Able.f k T l no) ((rd_T32 T (tAt T r)).f3 == 1) ∧ Ev (fun k => impl_Able.f k T l no) ((rd_T32 T (tAt T r)).f3 == 1) := by
          unfold spec_l8Able.f impl_Able.f
          simp only [impl_TaskAt.f, Option.bind_some]
          exact ⟨Ev.bind h1 (evNeg hr (Ev.bind s1 (evPos k1 (evPos l1 (evPos hc (Ev.bind s2 (evPos k2 (evPos l2 (Ev.now _))))))))), Ev.bind x1 (evNeg hr (evPos k1 (evPos l1 (evPos hc (evPos k2 (evPos l2 (Ev.now _)))))))⟩
        by_cases hd : (rd_T32 T (tAt T r)).f3 = 1
        · rw [show ((rd_T32 T (tAt T r)).f3 == 1) = true by simp [hd]] at av
          have cv : Ev (fun k => spec_l8Can.f k T l no) (if (rd_T32 T (tAt T no)).f1 = 1 then decide ((rd_T32 T (tAt T no)).f7 > 0) else true) ∧ Ev (fun k => impl_CanTurn.f k T l no) (if (rd_T32 T (tAt T no)).f1 = 1 then decide ((rd_T32 T (tAt T no)).f7 > 0) else true) := by
            unfold spec_l8Can.f impl_CanTurn.f
            simp only [impl_TaskAt.f, Option.bind_some]
            by_cases hf : (rd_T32 T (tAt T no)).f1 = 1
            · rw [if_pos hf]
              exact ⟨Ev.bind av.1 (evPos rfl (Ev.bind s1 (evPos k1 (evPos l1 (evPos hf (Ev.now _)))))), Ev.bind av.2 (evPos rfl (evPos k1 (evPos l1 (evPos hf (Ev.now _)))))⟩
            · rw [if_neg hf]
              exact ⟨Ev.bind av.1 (evPos rfl (Ev.bind s1 (evPos k1 (evPos l1 (evNeg hf (Ev.now _)))))), Ev.bind av.2 (evPos rfl (evPos k1 (evPos l1 (evNeg hf (Ev.now _)))))⟩
          obtain ⟨f1, f2⟩ := fin _ true av.1 av.2 cv.1 cv.2
          refine ⟨_, true, r, f1, f2, fun z => absurd z (by decide), fun _ => ⟨⟨k1, k2⟩, ⟨hc, hd⟩, ?_, ?_, rfl⟩⟩
          · have hs := chain_step l o no ho (o.length - 1) (by omega)
            rw [dif_neg (by omega)] at hs
            rw [k3]
            exact hs
          · intro hw
            have hs := chain_step l o no ho 0 hp
            have e0 : o[0] = no := by simp only [ht, List.getElem_cons_zero]
            by_cases z : 0 + 1 < o.length
            · rw [dif_pos z, e0] at hs
              omega
            · rw [k3]
              have : o.length - 1 = 0 := by omega
              simp only [this]
              exact e0
        · rw [show ((rd_T32 T (tAt T r)).f3 == 1) = false by simp [hd]] at av
          exact no_ av.1 av.2
      · refine no_ ?_ ?_
        · unfold spec_l8Able.f
          exact Ev.bind h1 (evNeg hr (Ev.bind s1 (evPos k1 (evPos l1 (evNeg hc (Ev.now _))))))
        · unfold impl_Able.f
          simp only [impl_TaskAt.f, Option.bind_some]
          exact Ev.bind x1 (evNeg hr (evPos k1 (evPos l1 (evNeg hc (Ev.now _)))))
  · have x1 : Ev (fun k => impl_Executor.f k T l no) 0 := (iBoth_ev T hT l hl _ 0).2 h
    have a1 : Ev (fun k => impl_Able.f k T l no) false := by
      unfold impl_Able.f
      exact Ev.bind x1 (evPos rfl (Ev.now _))
    have c1 : Ev (fun k => impl_CanTurn.f k T l no) false := by
      unfold impl_CanTurn.f
      exact Ev.bind a1 (evNeg (by decide) (Ev.now _))
    exact ⟨false, false, 0, ⟨c1, a1, x1⟩, ⟨(both_ev T hT l hl _ false).2 h, (both_ev T hT l hl _ false).2 h, (both_ev T hT l hl _ 0).2 h⟩, fun _ => rfl, fun z => absurd z (by decide)⟩
/-! A draw answers, and with what. -/
def En {α : Type} (f : Nat → Option α) (Q : α → Prop) : Prop := ∃ r, Ev f r ∧ Q r
theorem En.bind {α β : Type} {f : Nat → Option α} {P : α → Prop} {g : α → Nat → Option β} {Q : β → Prop} (h : En f P) (hg : ∀ r, P r → En (fun k => g r k) Q) : En (fun k => (f k).bind (fun r => g r k)) Q := by
  obtain ⟨r, e, p⟩ := h
  obtain ⟨s, e2, q⟩ := hg r p
  exact ⟨s, Ev.bind e e2, q⟩
theorem En.ite {α : Type} {c : Prop} [Decidable c] {f g : Nat → Option α} {Q : α → Prop} (h : c → En f Q) (h' : ¬ c → En g Q) : En (fun k => if c then f k else g k) Q := by
  by_cases hc : c
  · obtain ⟨r, e, q⟩ := h hc
    exact ⟨r, evPos hc e, q⟩
  · obtain ⟨r, e, q⟩ := h' hc
    exact ⟨r, evNeg hc e, q⟩
theorem En.now {α : Type} {r : α} {Q : α → Prop} (h : Q r) : En (fun _ => some r) Q := ⟨r, Ev.now r, h⟩
theorem En.of {α : Type} {o : Option α} {P : α → Prop} (h : ∃ r, o = some r ∧ P r) : En (fun _ => o) P := by
  obtain ⟨r, e, p⟩ := h
  exact ⟨r, ⟨0, fun _ _ => e⟩, p⟩
theorem and255 (x : Int) : 0 ≤ Go.bits .and .i64 x 255 ∧ Go.bits .and .i64 x 255 ≤ 255 := by
  have e : Go.bits .and .i64 x 255 = IntKind.i64.wrap (((BitVec.ofInt 64 x) &&& (BitVec.ofInt 64 255)).toNat : Nat) := rfl
  have h : ((BitVec.ofInt 64 x) &&& (BitVec.ofInt 64 255)).toNat ≤ 255 := by rw [BitVec.toNat_and]; exact Nat.and_le_right
  rw [e, IntKind.wrap_i64]
  omega
theorem byte_some (l : List Int) (hl : l.length ≤ maxLen) (i h : Int) (h0 : 0 ≤ i) : ∃ b i' h', spec_l1Byte.f l i h = some (b, i', h') ∧ 0 ≤ b ∧ b ≤ 255 ∧ 0 ≤ i' := by
  unfold maxLen at hl
  unfold spec_l1Byte.f
  by_cases e : i < (l.length : Int)
  · rw [if_pos e, if_pos h0, wr (i + 1) (by omega) (by omega)]
    exact ⟨_, _, _, rfl, (and255 _).1, (and255 _).2, by omega⟩
  · rw [if_neg e]
    exact ⟨_, _, _, rfl, (and255 _).1, (and255 _).2, by omega⟩
theorem below_some (l : List Int) (hl : l.length ≤ maxLen) (i h n : Int) (h0 : 0 ≤ i) : ∃ r i' h', spec_l1Below.f l i h n = some (r, i', h') ∧ 0 ≤ i' ∧ 0 ≤ r ∧ (0 < n → r < n) ∧ (n ≤ 0 → r = 0) := by
  unfold spec_l1Below.f
  by_cases e : n ≤ 0
  · rw [if_pos e]
    exact ⟨_, _, _, rfl, h0, by omega, by omega, by omega⟩
  · rw [if_neg e]
    obtain ⟨b, i1, h1, e1, b0, b1, p1⟩ := byte_some l hl i h h0
    by_cases e2 : n ≤ 256
    · rw [if_pos e2, e1]
      simp only [Option.bind_some]
      rw [if_neg (by omega)]
      have := Int.tmod_nonneg n b0
      have := Int.tmod_lt_of_pos b (show 0 < n by omega)
      exact ⟨_, _, _, rfl, p1, by omega, by omega, by omega⟩
    · rw [if_neg e2, e1]
      simp only [Option.bind_some]
      obtain ⟨c, i2, h2, e3, c0, c1, p2⟩ := byte_some l hl i1 h1 p1
      rw [e3]
      simp only [Option.bind_some]
      obtain ⟨d, i3, h3, e4, d0, d1, p3⟩ := byte_some l hl i2 h2 p2
      rw [e4]
      simp only [Option.bind_some]
      obtain ⟨f, i4, h4, e5, f0, f1, p4⟩ := byte_some l hl i3 h3 p3
      rw [e5]
      simp only [Option.bind_some]
      rw [if_neg (by omega), wr (b * 16777216) (by omega) (by omega), wr (c * 65536) (by omega) (by omega), wr (d * 256) (by omega) (by omega), wr (b * 16777216 + c * 65536) (by omega) (by omega), wr (b * 16777216 + c * 65536 + d * 256) (by omega) (by omega), wr (b * 16777216 + c * 65536 + d * 256 + f) (by omega) (by omega)]
      have := Int.tmod_nonneg n (show 0 ≤ b * 16777216 + c * 65536 + d * 256 + f by omega)
      have := Int.tmod_lt_of_pos (b * 16777216 + c * 65536 + d * 256 + f) (show 0 < n by omega)
      exact ⟨_, _, _, rfl, p4, by omega, by omega, by omega⟩
theorem belowR_en (l : List Int) (hl : l.length ≤ maxLen) (i h n : Int) (h0 : 0 ≤ i) (hn : 0 < n) : En (fun _ => spec_l1Below.f l i h n) (fun r => (0 ≤ r.1 ∧ r.1 < n) ∧ 0 ≤ r.2.1) := by
  obtain ⟨r, i', h', e, p, q, s, _⟩ := below_some l hl i h n h0
  exact En.of ⟨_, e, ⟨q, s hn⟩, p⟩
theorem below_en (l : List Int) (hl : l.length ≤ maxLen) (i h n : Int) (h0 : 0 ≤ i) : En (fun _ => spec_l1Below.f l i h n) (fun r => 0 ≤ r.2.1) := by
  obtain ⟨r, i', h', e, p, _⟩ := below_some l hl i h n h0
  exact En.of ⟨_, e, p⟩
theorem En.step {α : Type} {f g : Nat → Option α} {Q : α → Prop} (h : ∀ k, f (k + 1) = g k) (e : En g Q) : En f Q := by
  obtain ⟨r, e, q⟩ := e
  exact ⟨r, Ev.step h e, q⟩
/-- What LockAsk answers. -/
def AskR (l : List S41) (i no : Int) (r : List S41 × Int) : Prop :=
  (¬ lkOk l ∧ r = ([], 2)) ∨
  (lkOk l ∧ (¬ (0 ≤ i ∧ i < (l.length : Int)) ∨ ¬ (1 ≤ no ∧ no ≤ 1000) ∨ 0 ≤ waitAt l no) ∧ r = (l, 2)) ∨
  (lkOk l ∧ (1 ≤ no ∧ no ≤ 1000) ∧ waitAt l no < 0 ∧ ∃ j : Nat, ∃ hj : j < l.length, i = (j : Int) ∧
    (((l[j]).f0 = no ∧ r = (l, 3)) ∨ ((l[j]).f0 ≠ no ∧ (l[j]).f0 = 0 ∧ r = (l.set j ⟨no, (l[j]).f1⟩, 0)) ∨
      ((l[j]).f0 ≠ no ∧ (l[j]).f0 ≠ 0 ∧ ∃ o, IsChain l (l[j]).f0 o ∧ ((no ∈ o ∧ r = (l, 4)) ∨ (no ∉ o ∧ r = (l.set j ⟨(l[j]).f0, (l[j]).f1 ++ [no]⟩, 1))))))
theorem ask_ex (l : List S41) (i no : Int) : ∃ r, AskR l i no r := by
  by_cases h : lkOk l
  · by_cases h1 : ¬ (0 ≤ i ∧ i < (l.length : Int)) ∨ ¬ (1 ≤ no ∧ no ≤ 1000) ∨ 0 ≤ waitAt l no
    · exact ⟨_, .inr (.inl ⟨h, h1, rfl⟩)⟩
    · have h2 : 0 ≤ i ∧ i < (l.length : Int) := Classical.byContradiction fun z => h1 (.inl z)
      have h3 : 1 ≤ no ∧ no ≤ 1000 := Classical.byContradiction fun z => h1 (.inr (.inl z))
      have h4 : waitAt l no < 0 := Int.not_le.1 fun z => h1 (.inr (.inr z))
      have hj : i.toNat < l.length := by omega
      by_cases e1 : (l[i.toNat]).f0 = no
      · exact ⟨_, .inr (.inr ⟨h, h3, h4, i.toNat, hj, by omega, .inl ⟨e1, rfl⟩⟩)⟩
      · by_cases e2 : (l[i.toNat]).f0 = 0
        · exact ⟨_, .inr (.inr ⟨h, h3, h4, i.toNat, hj, by omega, .inr (.inl ⟨e1, e2, rfl⟩)⟩)⟩
        · obtain ⟨o, ho⟩ := lk_chain l h (l[i.toNat]).f0
          by_cases e3 : no ∈ o
          · exact ⟨_, .inr (.inr ⟨h, h3, h4, i.toNat, hj, by omega, .inr (.inr ⟨e1, e2, o, ho, .inl ⟨e3, rfl⟩⟩)⟩)⟩
          · exact ⟨_, .inr (.inr ⟨h, h3, h4, i.toNat, hj, by omega, .inr (.inr ⟨e1, e2, o, ho, .inr ⟨e3, rfl⟩⟩)⟩)⟩
  · exact ⟨_, .inl ⟨h, rfl⟩⟩
theorem count_set (a : Int) (ws : List Int) (w : Int) : ∀ (l : List S41) (i : Nat) (hi : i < l.length), (allW (l.set i ⟨a, ws⟩)).count w + ((l[i]).f1).count w = (allW l).count w + ws.count w := by
  intro l
  induction l with
  | nil => intro i hi; exact absurd hi (by simp)
  | cons x r ih =>
    intro i hi
    cases i with
    | zero =>
      rw [List.set_cons_zero, allW_cons, allW_cons, List.count_append, List.count_append, List.getElem_cons_zero]
      simp only
      omega
    | succ i =>
      have := ih i (by simpa using hi)
      rw [List.set_cons_succ, allW_cons, allW_cons, List.count_append, List.count_append, List.getElem_cons_succ]
      omega
theorem allW_mem (l : List S41) (w : Int) : w ∈ allW l ↔ ∃ x ∈ l, w ∈ x.f1 := List.mem_flatMap
theorem lk_iff (l : List S41) : lkOk l ↔ l.length ≤ 5 ∧ (∀ x ∈ l, okL x) ∧ ∀ w ∈ allW l, okN l w := by
  unfold lkOk
  constructor
  · rintro ⟨a, b⟩
    refine ⟨a, fun x hx => (b x hx).1, fun w hw => ?_⟩
    obtain ⟨x, hx, m⟩ := (allW_mem l w).1 hw
    exact (b x hx).2 w m
  · rintro ⟨a, b, c⟩
    exact ⟨a, fun x hx => ⟨b x hx, fun w m => c w ((allW_mem l w).2 ⟨x, hx, m⟩)⟩⟩
/-- What makes locks right, chains told as such. -/
theorem lk_mk (l : List S41) (h1 : l.length ≤ 5) (h2 : ∀ x ∈ l, okL x) (h3 : ∀ x ∈ l, (x.f1).length ≤ 1048576) (h4 : ∀ w ∈ allW l, (1 ≤ w ∧ w ≤ 1000) ∧ (allW l).count w = 1 ∧ ∃ o, IsChain l w o) : lkOk l := by
  have hs : shortK l := ⟨by omega, h3⟩
  refine (lk_iff l).2 ⟨h1, h2, fun w hw => ?_⟩
  obtain ⟨a, b, c⟩ := h4 w hw
  exact ⟨a, b, (chain_ok l hs w).2 c⟩
theorem mem_set2 {α : Type} (l : List α) (i : Nat) (y x : α) (h : x ∈ l.set i y) : x = y ∨ x ∈ l := (List.mem_or_eq_of_mem_set h).symm
theorem ownK_at (l : List S41) (v : Int) (j : Nat) (hj : j < l.length) (h : waitAt l v = (j : Int)) : ownK l v = (l[j]).f0 := by
  unfold ownK
  rw [h, rdK l j hj]
theorem waitAt_on (l : List S41) (v : Int) (h : 0 ≤ waitAt l v) : ∃ j, ∃ hj : j < l.length, waitAt l v = (j : Int) ∧ v ∈ (l[j]).f1 := by
  rcases idxF_find (fun t : S41 => decide (v ∈ t.f1)) l 0 with ⟨e, g⟩ | ⟨j, hj, e, g⟩
  · unfold waitAt at h
    rw [e] at h
    omega
  · exact ⟨j, hj, by unfold waitAt; rw [e]; omega, of_decide_eq_true g⟩
theorem idxF_set {α : Type} (p : α → Bool) (y : α) : ∀ (l : List α) (i : Nat) (n : Int) (hi : i < l.length), p y = p l[i] → idxF p (l.set i y) n = idxF p l n := by
  intro l
  induction l with
  | nil => intro i n hi; exact absurd hi (by simp)
  | cons x r ih =>
    intro i n hi h
    cases i with
    | zero =>
      rw [List.set_cons_zero, idxF, idxF, h]
      rfl
    | succ i => rw [List.set_cons_succ, idxF, idxF, ih i (n + 1) (by simpa using hi) (by simpa using h)]
theorem waitAt_set (l : List S41) (i : Nat) (hi : i < l.length) (y : S41) (v : Int) (h : v ∈ y.f1 ↔ v ∈ (l[i]).f1) : waitAt (l.set i y) v = waitAt l v := idxF_set _ y l i 0 hi (decide_eq_decide.2 h)
theorem ownK_set (l : List S41) (i : Nat) (hi : i < l.length) (y : S41) (v : Int) (h : v ∈ y.f1 ↔ v ∈ (l[i]).f1) (h0 : 0 ≤ waitAt l v) : (waitAt l v = (i : Int) ∧ ownK (l.set i y) v = y.f0) ∨ (waitAt l v ≠ (i : Int) ∧ ownK (l.set i y) v = ownK l v) := by
  obtain ⟨j, hj, e, _⟩ := waitAt_on l v h0
  have e2 := waitAt_set l i hi y v h
  rw [e] at e2 ⊢
  rw [ownK_at (l.set i y) v j (by simpa using hj) e2, List.getElem_set, ownK_at l v j hj e]
  by_cases hij : i = j
  · rw [if_pos hij]
    exact .inl ⟨by rw [hij], rfl⟩
  · rw [if_neg hij]
    exact .inr ⟨by omega, rfl⟩
/-- An owner is set where nobody waits. -/
theorem own_chain (l : List S41) (i : Nat) (hi : i < l.length) (y : S41) (h1 : y.f1 = (l[i]).f1) (he : (l[i]).f1 = []) : ∀ (o : List Int) (no : Int), IsChain l no o → IsChain (l.set i y) no o := by
  intro o
  induction o with
  | nil => intro no h; exact absurd h (by simp [IsChain])
  | cons x r ih =>
    intro no h
    have hv : ∀ v, v ∈ y.f1 ↔ v ∈ (l[i]).f1 := fun v => by rw [h1]
    simp only [IsChain] at h ⊢
    rw [waitAt_set l i hi y no (hv no)]
    obtain ⟨rfl, h⟩ := h
    refine ⟨rfl, ?_⟩
    rcases h with h | ⟨h, h2⟩
    · exact .inl h
    · refine .inr ⟨h, ?_⟩
      rcases ownK_set l i hi y x (hv x) h with ⟨e, _⟩ | ⟨_, e⟩
      · obtain ⟨j, hj, e2, m⟩ := waitAt_on l x h
        rw [e2] at e
        have : j = i := by omega
        subst this
        rw [he] at m
        exact absurd m (by simp)
      · rw [e]
        exact ih _ h2
theorem lk_own (l : List S41) (h : lkOk l) (i : Nat) (hi : i < l.length) (he : (l[i]).f1 = []) (no : Int) (hn : 0 ≤ no ∧ no ≤ 1000) : lkOk (l.set i ⟨no, (l[i]).f1⟩) := by
  have hc : ∀ w, (allW (l.set i ⟨no, (l[i]).f1⟩)).count w = (allW l).count w := fun w => by have := count_set no (l[i]).f1 w l i hi; omega
  refine lk_mk _ (by rw [List.length_set]; exact h.1) (fun x hx => ?_) (fun x hx => ?_) (fun w hw => ?_)
  · rcases mem_set2 _ _ _ _ hx with rfl | hx
    · exact ⟨hn, fun _ => by rw [he]; rfl⟩
    · exact (h.2 x hx).1
  · rcases mem_set2 _ _ _ _ hx with rfl | hx
    · show ((l[i]).f1).length ≤ 1048576
      rw [he]
      simp
    · have := lk_len l h x hx
      omega
  · have hm : w ∈ allW l := List.count_pos_iff.1 (by rw [← hc]; exact List.count_pos_iff.2 hw)
    obtain ⟨_, _, h3⟩ := (lk_iff l).1 h
    obtain ⟨o, ho⟩ := lk_chain l h w
    exact ⟨(h3 w hm).1, by rw [hc]; exact (h3 w hm).2.1, o, own_chain l i hi ⟨no, (l[i]).f1⟩ rfl he o w ho⟩
theorem waitAt_no (l : List S41) (v : Int) : waitAt l v < 0 ↔ ∀ x ∈ l, v ∉ x.f1 := by
  rcases idxF_find (fun t : S41 => decide (v ∈ t.f1)) l 0 with ⟨e, g⟩ | ⟨j, hj, e, g⟩
  · refine ⟨fun _ x hx => of_decide_eq_false (g x hx), fun _ => ?_⟩
    unfold waitAt
    rw [e]
    decide
  · refine ⟨fun h => ?_, fun h => absurd (of_decide_eq_true g) (h _ (List.getElem_mem hj))⟩
    unfold waitAt at h
    rw [e] at h
    omega
theorem put_at (l : List S41) (i : Nat) (hi : i < l.length) (no : Int) (hw : waitAt l no < 0) : waitAt (l.set i ⟨(l[i]).f0, (l[i]).f1 ++ [no]⟩) no = (i : Int) := by
  have h0 : ¬ waitAt (l.set i ⟨(l[i]).f0, (l[i]).f1 ++ [no]⟩) no < 0 := by
    rw [waitAt_no]
    intro h
    exact h ⟨(l[i]).f0, (l[i]).f1 ++ [no]⟩ (List.mem_iff_getElem.2 ⟨i, by simpa using hi, by simp⟩) (by simp)
  obtain ⟨j, hj, e, m⟩ := waitAt_on _ no (Int.not_lt.1 h0)
  rw [e]
  rw [List.getElem_set] at m
  by_cases hij : i = j
  · rw [hij]
  · rw [if_neg hij] at m
    exact absurd m ((waitAt_no l no).1 hw _ (List.getElem_mem _))
/-- A number is put behind those that wait. -/
theorem put_far (l : List S41) (i : Nat) (hi : i < l.length) (no : Int) : ∀ (o : List Int) (x : Int), no ∉ o → IsChain l x o → IsChain (l.set i ⟨(l[i]).f0, (l[i]).f1 ++ [no]⟩) x o := by
  intro o
  induction o with
  | nil => intro x _ h; exact absurd h (by simp [IsChain])
  | cons y r ih =>
    intro x hn h
    simp only [IsChain] at h ⊢
    obtain ⟨rfl, h⟩ := h
    have hy : y ≠ no := fun e => hn (by rw [e]; exact List.mem_cons_self)
    have hv : y ∈ (l[i]).f1 ++ [no] ↔ y ∈ (l[i]).f1 := by
      rw [List.mem_append, List.mem_singleton]
      exact ⟨fun z => z.resolve_right hy, .inl⟩
    rw [waitAt_set l i hi ⟨(l[i]).f0, (l[i]).f1 ++ [no]⟩ y hv]
    refine ⟨rfl, ?_⟩
    rcases h with h | ⟨h, h2⟩
    · exact .inl h
    · refine .inr ⟨h, ?_⟩
      have e : ownK (l.set i ⟨(l[i]).f0, (l[i]).f1 ++ [no]⟩) y = ownK l y := by
        rcases ownK_set l i hi ⟨(l[i]).f0, (l[i]).f1 ++ [no]⟩ y hv h with ⟨e1, e2⟩ | ⟨_, e⟩
        · rw [e2, ownK_at l y i hi e1]
        · exact e
      rw [e]
      exact ih _ (fun m => hn (List.mem_cons_of_mem _ m)) h2
theorem put_chain (l : List S41) (i : Nat) (hi : i < l.length) (no : Int) (hw : waitAt l no < 0) (c : List Int) (hc : IsChain l (l[i]).f0 c) (hn : no ∉ c) : ∀ (o : List Int) (x : Int), IsChain l x o → ∃ o2, IsChain (l.set i ⟨(l[i]).f0, (l[i]).f1 ++ [no]⟩) x o2 := by
  intro o
  induction o with
  | nil => intro x h; exact absurd h (by simp [IsChain])
  | cons y r ih =>
    intro x h
    simp only [IsChain] at h
    obtain ⟨rfl, h⟩ := h
    by_cases hy : y = no
    · refine ⟨y :: c, ?_⟩
      have e := put_at l i hi no hw
      simp only [IsChain]
      rw [hy]
      refine ⟨trivial, .inr ⟨by omega, ?_⟩⟩
      rw [ownK_at _ no i (by simpa using hi) e]
      simp only [List.getElem_set_self]
      exact put_far l i hi no c _ hn hc
    · have hv : y ∈ (l[i]).f1 ++ [no] ↔ y ∈ (l[i]).f1 := by
        rw [List.mem_append, List.mem_singleton]
        exact ⟨fun z => z.resolve_right hy, .inl⟩
      have hq := waitAt_set l i hi ⟨(l[i]).f0, (l[i]).f1 ++ [no]⟩ y hv
      rcases h with ⟨_, h⟩ | ⟨h, h2⟩
      · refine ⟨[y], ?_⟩
        simp only [IsChain]
        exact ⟨trivial, .inl ⟨trivial, by omega⟩⟩
      · obtain ⟨o2, h3⟩ := ih _ h2
        refine ⟨y :: o2, ?_⟩
        have e : ownK (l.set i ⟨(l[i]).f0, (l[i]).f1 ++ [no]⟩) y = ownK l y := by
          rcases ownK_set l i hi ⟨(l[i]).f0, (l[i]).f1 ++ [no]⟩ y hv h with ⟨e1, e2⟩ | ⟨_, e⟩
          · rw [e2, ownK_at l y i hi e1]
          · exact e
        simp only [IsChain]
        rw [e]
        exact ⟨trivial, .inr ⟨by omega, h3⟩⟩
theorem waitAt_all (l : List S41) (v : Int) : waitAt l v < 0 ↔ v ∉ allW l := by
  rw [waitAt_no, allW_mem]
  exact ⟨fun h ⟨x, hx, m⟩ => h x hx m, fun h x hx m => h ⟨x, hx, m⟩⟩
theorem lk_put (l : List S41) (h : lkOk l) (i : Nat) (hi : i < l.length) (no : Int) (hn : 1 ≤ no ∧ no ≤ 1000) (hw : waitAt l no < 0) (h0 : (l[i]).f0 ≠ 0) (c : List Int) (hc : IsChain l (l[i]).f0 c) (hm : no ∉ c) : lkOk (l.set i ⟨(l[i]).f0, (l[i]).f1 ++ [no]⟩) := by
  have hct : ∀ w, (allW (l.set i ⟨(l[i]).f0, (l[i]).f1 ++ [no]⟩)).count w = (allW l).count w + [no].count w := fun w => by have := count_set (l[i]).f0 ((l[i]).f1 ++ [no]) w l i hi; rw [List.count_append] at this; omega
  have hz : (allW l).count no = 0 := List.count_eq_zero.2 ((waitAt_all l no).1 hw)
  refine lk_mk _ (by rw [List.length_set]; exact h.1) (fun x hx => ?_) (fun x hx => ?_) (fun w hw2 => ?_)
  · rcases mem_set2 _ _ _ _ hx with rfl | hx
    · exact ⟨(h.2 _ (List.getElem_mem hi)).1.1, fun z => absurd z h0⟩
    · exact (h.2 x hx).1
  · rcases mem_set2 _ _ _ _ hx with rfl | hx
    · have := lk_len l h _ (List.getElem_mem hi)
      rw [List.length_append, List.length_singleton]
      omega
    · have := lk_len l h x hx
      omega
  · obtain ⟨o, ho⟩ := lk_chain l h w
    have ho2 := put_chain l i hi no hw c hc hm o w ho
    by_cases e : w = no
    · subst e
      exact ⟨hn, by rw [hct, hz, List.count_singleton_self], ho2⟩
    · have e2 : [no].count w = 0 := List.count_eq_zero.2 (by rw [List.mem_singleton]; exact e)
      have hm2 : w ∈ allW l := List.count_pos_iff.1 (by have := List.count_pos_iff.2 hw2; rw [hct, e2] at this; omega)
      obtain ⟨_, _, h3⟩ := (lk_iff l).1 h
      exact ⟨(h3 w hm2).1, by rw [hct, e2]; exact (h3 w hm2).2.1, ho2⟩
theorem ask_ok (l : List S41) (h : lkOk l) (i no : Int) (r : List S41 × Int) (hr : AskR l i no r) : lkOk r.1 ∧ r.1.length = l.length := by
  rcases hr with ⟨z, _⟩ | ⟨_, _, rfl⟩ | ⟨_, h3, h4, j, hj, _, ⟨_, rfl⟩ | ⟨_, h0, rfl⟩ | ⟨_, h0, o, ho, ⟨_, rfl⟩ | ⟨hm, rfl⟩⟩⟩
  · exact absurd h z
  · exact ⟨h, rfl⟩
  · exact ⟨h, rfl⟩
  · refine ⟨lk_own l h j hj (List.eq_nil_of_length_eq_zero ((h.2 _ (List.getElem_mem hj)).1.2 h0)) no (by omega), by simp only [List.length_set]⟩
  · exact ⟨h, rfl⟩
  · exact ⟨lk_put l h j hj no h3 h4 h0 o ho hm, by simp only [List.length_set]⟩
theorem En.mono {α : Type} {f : Nat → Option α} {P Q : α → Prop} (h : En f P) (hq : ∀ r, P r → Q r) : En f Q := by
  obtain ⟨r, e, p⟩ := h
  exact ⟨r, e, hq r p⟩
theorem sLk_ev (l : List S41) (hl : shortK l) : (lkOk l → Ev (fun k => spec_LocksOk.f k l) true) ∧ (¬ lkOk l → Ev (fun k => spec_LocksOk.f k l) false) := by
  obtain ⟨b, hb, _, hq⟩ := locks_ev l hl
  constructor
  · intro h
    rw [hq.2 h] at hb
    exact hb
  · intro h
    rw [Bool.eq_false_iff.2 fun z => h (hq.1 z)] at hb
    exact hb
theorem sChainOf_ev (l : List S41) (h : lkOk l) (no : Int) (o : List Int) (ho : IsChain l no o) : Ev (fun k => spec_ChainOf.f k l no) o := by
  unfold spec_ChainOf.f
  exact Ev.bind ((sLk_ev l (lk_short l h)).1 h) (evPos rfl (Ev.bind (chain_both l (lk_short l h) no o ho).2 (Ev.now _)))
theorem sCopy_loop (l : List S41) (hl : shortK l) : ∀ (d i : Nat), l.length - i = d → i ≤ l.length → Ev (fun k => spec_l7Copy.l0 k l (l.take i) (i : Int)) l := by
  have hl1 := hl.1
  intro d
  induction d with
  | zero =>
    intro i hd hi
    refine Ev.step (fun k => by simp only [spec_l7Copy.l0]; rfl) ?_
    refine evNeg (by omega) ?_
    rw [List.take_of_length_le (by omega)]
    exact Ev.now _
  | succ d ih =>
    intro i hd hi
    have hi2 : i < l.length := by omega
    have hf := hl.2 l[i] (List.getElem_mem hi2)
    have e : wrap64 ((i : Int) + 1) = ((i + 1 : Nat) : Int) := by rw [wr _ (by omega) (by omega)]; omega
    refine Ev.step (fun k => by simp only [spec_l7Copy.l0, Option.bind_some]; rfl) ?_
    refine evPos (by omega) (evPos (by omega) ?_)
    rw [rdK l i hi2, e]
    refine evPos (by simp only [List.length_nil]; omega) (evPos (by rw [List.length_take]; omega) ?_)
    have := ih (i + 1) (by omega) (by omega)
    rw [List.take_succ_eq_append_getElem hi2] at this
    exact this
theorem sCopy_ev (l : List S41) (hl : shortK l) : Ev (fun k => spec_l7Copy.f k l) l := sCopy_loop l hl l.length 0 (by omega) (by omega)
theorem set_toNat {α : Type} (l : List α) (j : Nat) (y : α) : l.set ((j : Int)).toNat y = l.set j y := by rw [Int.toNat_natCast]
theorem sAsk_ev (l : List S41) (hl : shortK l) (i no : Int) (r : List S41 × Int) (hr : AskR l i no r) : Ev (fun k => spec_LockAsk.f k l i no) r := by
  have hl1 := hl.1
  unfold spec_LockAsk.f
  have hk : lkOk l → Ev (fun k => spec_LocksOk.f k l) true := (sLk_ev l hl).1
  have e1 : wrap64 ((l.length : Int) - 1) = (l.length : Int) - 1 := wr _ (by omega) (by omega)
  have bad : Ev (fun k => spec_LockAsk.j0 k l i no l true) (l, 2) := by
    refine Ev.step (fun k => by simp only [spec_LockAsk.j0]; rfl) ?_
    exact evPos trivial (Ev.now _)
  simp only [sin_eq, Option.bind_some, decide_eq_true_eq]
  rcases hr with ⟨z, rfl⟩ | ⟨h, z, rfl⟩ | ⟨h, h3, h4, j, hj, rfl, z⟩
  · exact Ev.bind ((sLk_ev l hl).2 z) (evNeg (by decide) (Ev.now _))
  · refine Ev.bind (hk h) (evPos rfl (Ev.bind (sCopy_ev l hl) ?_))
    rw [e1]
    by_cases g1 : 0 ≤ i ∧ i ≤ (l.length : Int) - 1
    · refine evPos g1 ?_
      by_cases g2 : 1 ≤ no ∧ no ≤ 1000
      · refine evPos g2 (Ev.bind (sWaitAt_ev l hl no) ?_)
        have g3 : 0 ≤ waitAt l no := by
          rcases z with z | z | z
          · exact absurd ⟨g1.1, by omega⟩ z
          · exact absurd g2 z
          · exact z
        rw [decide_eq_true (show waitAt l no ≥ 0 from g3)]
        exact bad
      · exact evNeg g2 bad
    · exact evNeg g1 bad
  · refine Ev.bind (hk h) (evPos rfl (Ev.bind (sCopy_ev l hl) ?_))
    rw [e1]
    refine evPos (by omega) (evPos h3 (Ev.bind (sWaitAt_ev l hl no) ?_))
    rw [decide_eq_false (show ¬ waitAt l no ≥ 0 by omega)]
    refine Ev.step (fun k => by simp only [spec_LockAsk.j0]; rfl) ?_
    refine evNeg (by decide) (evPos (by omega) (evPos (by omega) ?_))
    rw [rdK l j hj]
    rcases z with ⟨h5, rfl⟩ | ⟨h5, h6, rfl⟩ | ⟨h5, h6, o, ho, z⟩
    · exact evPos h5 (Ev.now _)
    · refine evNeg h5 (evPos h6 (evPos (by omega) ?_))
      rw [set_toNat]
      exact Ev.now _
    · refine evNeg h5 (evNeg h6 (Ev.bind (sChainOf_ev l h _ o ho) ?_))
      have hq := chain_len l o _ ho
      refine Ev.bind (hasE_ev o (by omega) no) ?_
      rcases z with ⟨h7, rfl⟩ | ⟨h7, rfl⟩
      · exact evPos (decide_eq_true h7) (Ev.now _)
      · have := lk_len l h _ (List.getElem_mem hj)
        refine evNeg (by rw [decide_eq_true_eq]; exact h7) (evPos (by omega) (evPos (by omega) ?_))
        rw [set_toNat]
        exact Ev.now _
theorem l7Right_loop (c : List Int) (hc : c.length ≤ maxLen) (n m : Nat) (hn : 1 ≤ n) (hm : m ≤ 12) : ∀ (d x : Nat) (i h : Int) (l : List S41), m - x = d → x ≤ m → lkOk l → l.length = n → 0 ≤ i → En (fun k => spec_l7DrawRight.l0 k l (m : Int) (x : Int) c i h) (fun r => lkOk r.1 ∧ r.1.length = n ∧ 0 ≤ r.2.1) := by
  intro d
  induction d with
  | zero =>
    intro x i h l hd hx hl hln h0
    refine En.step (fun k => by simp only [spec_l7DrawRight.l0]; rfl) ?_
    exact En.ite (fun z => absurd z (by omega)) (fun _ => En.now ⟨hl, hln, h0⟩)
  | succ d ih =>
    intro x i h l hd hx hl hln h0
    have e : wrap64 ((x : Int) + 1) = ((x + 1 : Nat) : Int) := by rw [wr _ (by omega) (by omega)]; omega
    refine En.step (fun k => by simp only [spec_l7DrawRight.l0]; rfl) ?_
    refine En.ite (fun _ => ?_) (fun z => absurd (by omega) z)
    refine En.bind (belowR_en c hc _ _ _ h0 (by omega)) (fun r hr => ?_)
    refine En.bind (belowR_en c hc _ _ _ hr.2 (by decide)) (fun s hs => ?_)
    obtain ⟨q, hq⟩ := ask_ex l r.1 (wrap64 (1 + s.1))
    refine En.bind ⟨q, sAsk_ev l (lk_short l hl) _ _ q hq, rfl⟩ (fun t ht => ?_)
    subst ht
    obtain ⟨h1, h2⟩ := ask_ok l hl _ _ q hq
    rw [e]
    exact ih (x + 1) _ _ _ (by omega) (by omega) h1 (by omega) hs.2
theorem made_lk (n : Nat) (hn : n ≤ 5) : lkOk (List.replicate n z41) := by
  have e : allW (List.replicate n z41) = [] := by
    unfold allW
    rw [List.flatMap_eq_nil_iff]
    intro x hx
    rw [List.eq_of_mem_replicate hx]
    rfl
  refine lk_mk _ (by rw [List.length_replicate]; exact hn) (fun x hx => ?_) (fun x hx => ?_) (fun w hw => by rw [e] at hw; exact absurd hw (by simp))
  · rw [List.eq_of_mem_replicate hx]
    exact ⟨⟨by decide, by decide⟩, fun _ => rfl⟩
  · rw [List.eq_of_mem_replicate hx]
    exact Nat.zero_le _
theorem l7Right_en (c : List Int) (hc : c.length ≤ maxLen) (i h : Int) (h0 : 0 ≤ i) : En (fun k => spec_l7DrawRight.f k c i h) (fun r => lkOk r.1 ∧ 1 ≤ r.1.length ∧ 0 ≤ r.2.1) := by
  unfold spec_l7DrawRight.f
  refine En.bind (belowR_en c hc _ _ _ h0 (by decide)) (fun r hr => ?_)
  have e : wrap64 (1 + r.1) = 1 + r.1 := wr _ (by omega) (by omega)
  rw [e]
  refine En.ite (fun _ => ?_) (fun z => absurd (by omega) z)
  refine En.ite (fun _ => ?_) (fun z => absurd (by omega) z)
  refine En.bind (belowR_en c hc _ _ _ hr.2 (by decide)) (fun s hs => ?_)
  have := l7Right_loop c hc (1 + r.1).toNat s.1.toNat (by omega) (by omega) s.1.toNat 0 s.2.1 s.2.2 (List.replicate (1 + r.1).toNat z41) (by omega) (by omega) (made_lk _ (by omega)) (by rw [List.length_replicate]) hs.2
  rw [show ((s.1.toNat : Nat) : Int) = s.1 by omega] at this
  exact En.mono this fun t ht => ⟨ht.1, by omega, ht.2.2⟩
theorem pick_some (l : List Int) (hl : l.length ≤ maxLen) (i h : Int) (xs : List Int) (h0 : 0 ≤ i) (hx : 0 < xs.length) : ∃ r i' h', spec_l1PickInt.f l i h xs = some (r, i', h') ∧ 0 ≤ i' ∧ r ∈ xs := by
  unfold spec_l1PickInt.f
  obtain ⟨r, i1, h1, e, p1, r0, r1, _⟩ := below_some l hl i h (xs.length : Int) h0
  have r1 := r1 (by omega)
  rw [e]
  simp only [Option.bind_some]
  rw [if_pos r0, if_pos r1]
  refine ⟨_, _, _, rfl, p1, ?_⟩
  unfold rd
  rw [List.getD_eq_getElem?_getD, List.getElem?_eq_getElem (by omega), Option.getD_some]
  exact List.getElem_mem _
theorem pick_en (l : List Int) (hl : l.length ≤ maxLen) (i h : Int) (x : Int) (xs : List Int) (h0 : 0 ≤ i) : En (fun _ => spec_l1PickInt.f l i h (x :: xs)) (fun r => 0 ≤ r.2.1) := by
  obtain ⟨r, i', h', e, p, _⟩ := pick_some l hl i h (x :: xs) h0 (by simp)
  exact En.of ⟨_, e, p⟩
theorem set_short (l : List S41) (h : lkOk l) (j : Nat) (y : S41) (hy : y.f1.length ≤ 1002) : shortK (l.set j y) := by
  refine ⟨by rw [List.length_set]; have := h.1; omega, fun x hx => ?_⟩
  rcases mem_set2 _ _ _ _ hx with rfl | hx
  · omega
  · have := lk_len l h x hx
    omega
/-- Drawn locks: some, and short. -/
theorem l7Draw_en (c : List Int) (hc : c.length ≤ maxLen) (i h : Int) (h0 : 0 ≤ i) : En (fun k => spec_l7Draw.f k c i h) (fun r => (shortK r.1 ∧ 1 ≤ r.1.length ∧ r.1.length ≤ 6) ∧ 0 ≤ r.2.1) := by
  unfold spec_l7Draw.f
  refine En.bind (l7Right_en c hc _ _ h0) (fun q hq => ?_)
  obtain ⟨hk, h1, hq⟩ := hq
  have h5 := hk.1
  refine En.bind (belowR_en c hc _ _ _ hq (by omega)) (fun r hr => ?_)
  refine En.bind (belowR_en c hc _ _ _ hr.2 (by decide)) (fun s hs => ?_)
  have hj : r.1.toNat < q.1.length := by omega
  have er : rd_T41 q.1 r.1 = q.1[r.1.toNat] := by
    have := rdK q.1 r.1.toNat hj
    rw [Int.toNat_of_nonneg hr.1.1] at this
    exact this
  have hw := lk_len q.1 hk _ (List.getElem_mem hj)
  refine En.ite (fun _ => ?_) (fun _ => En.ite (fun _ => ?_) (fun _ => En.ite (fun _ => ?_) (fun _ => ?_)))
  · refine En.bind (pick_en c hc _ _ _ _ hs.2) (fun t ht => ?_)
    refine En.ite (fun _ => En.ite (fun _ => En.now ⟨⟨?_, by simpa only [List.length_set] using h1, by simp only [List.length_set]; omega⟩, ht⟩) (fun z => absurd hr.1.2 z)) (fun z => absurd hr.1.1 z)
    rw [er]
    exact set_short q.1 hk _ _ (by simp only; omega)
  · refine En.ite (fun _ => En.ite (fun _ => ?_) (fun z => absurd hr.1.2 z)) (fun z => absurd hr.1.1 z)
    refine En.bind (belowR_en c hc _ _ _ hs.2 (by decide)) (fun t ht => ?_)
    rw [er]
    refine En.ite (fun _ => En.now ⟨⟨?_, by simpa only [List.length_set] using h1, by simp only [List.length_set]; omega⟩, ht.2⟩) (fun z => absurd (by omega) z)
    exact set_short q.1 hk _ _ (by simp only [List.length_append, List.length_singleton]; omega)
  · refine En.bind (belowR_en c hc _ _ _ hs.2 (by decide)) (fun t ht => ?_)
    have e : wrap64 (5 + t.1) = 5 + t.1 := wr _ (by omega) (by omega)
    rw [e]
    refine En.ite (fun _ => En.ite (fun _ => En.now ⟨⟨⟨by rw [List.length_replicate]; omega, fun x hx => ?_⟩, by rw [List.length_replicate]; omega, by rw [List.length_replicate]; omega⟩, ht.2⟩) (fun z => absurd (by omega) z)) (fun z => absurd (by omega) z)
    rw [List.eq_of_mem_replicate hx]
    exact Nat.zero_le _
  · exact En.now ⟨⟨lk_short _ hk, h1, show q.1.length ≤ 6 by omega⟩, hs.2⟩
theorem once_some (l : List Int) (hl : l.length ≤ maxLen) (i h n : Int) (h0 : 0 ≤ i) : ∃ b i' h', spec_l1Once.f l i h n = some (b, i', h') ∧ 0 ≤ i' := by
  obtain ⟨r, i', h', e, p, _⟩ := below_some l hl i h n h0
  exact ⟨r == 0, i', h', by unfold spec_l1Once.f; rw [e]; rfl, p⟩
theorem once_en (l : List Int) (hl : l.length ≤ maxLen) (i h n : Int) (h0 : 0 ≤ i) : En (fun _ => spec_l1Once.f l i h n) (fun r => 0 ≤ r.2.1) := by
  obtain ⟨r, i', h', e, p⟩ := once_some l hl i h n h0
  exact En.of ⟨_, e, p⟩
theorem drawBoth_end (c : List Int) (hc : c.length ≤ maxLen) (T : List S32) (hT : T.length ≤ 31) (l : List S41) (hk : lkOk l) (m x : Int) (i h : Int) (h0 : 0 ≤ i) : En (fun k => spec_l8DrawBoth.j1 k T l m x false c i h) (fun r => r.1.length ≤ 31 ∧ shortK r.2.1 ∧ 0 ≤ r.2.2.1) := by
  refine En.step (fun k => by simp only [spec_l8DrawBoth.j1]; rfl) ?_
  refine En.ite (fun z => absurd z (by decide)) (fun _ => En.ite (fun _ => ?_) (fun _ => ?_))
  · exact En.bind (l7Draw_en c hc _ _ h0) (fun s hs => En.now ⟨hT, hs.1.1, hs.2⟩)
  · refine En.bind (once_en c hc _ _ _ h0) (fun s hs => En.ite (fun _ => ?_) (fun _ => En.now ⟨hT, lk_short l hk, hs⟩))
    exact En.bind (l7Draw_en c hc _ _ hs) (fun u hu => En.now ⟨hT, hu.1.1, hu.2⟩)
theorem drawBoth_loop (c : List Int) (hc : c.length ≤ maxLen) (T : List S32) (hT : T.length ≤ 31) (m : Nat) (hm : m ≤ 8) : ∀ (d x : Nat) (i h : Int) (l : List S41), m - x = d → x ≤ m → lkOk l → 0 ≤ i → En (fun k => spec_l8DrawBoth.l0 k T l (m : Int) (x : Int) c i h) (fun r => r.1.length ≤ 31 ∧ shortK r.2.1 ∧ 0 ≤ r.2.2.1) := by
  intro d
  induction d with
  | zero =>
    intro x i h l hd hx hl h0
    refine En.step (fun k => by simp only [spec_l8DrawBoth.l0]; rfl) ?_
    exact En.ite (fun z => absurd z (by omega)) (fun _ => drawBoth_end c hc T hT l hl _ _ _ _ h0)
  | succ d ih =>
    intro x i h l hd hx hl h0
    have e : wrap64 ((x : Int) + 1) = ((x + 1 : Nat) : Int) := by rw [wr _ (by omega) (by omega)]; omega
    refine En.step (fun k => by simp only [spec_l8DrawBoth.l0]; rfl) ?_
    refine En.ite (fun _ => ?_) (fun z => absurd (by omega) z)
    by_cases hp : (T.length : Int) > 0
    · rw [decide_eq_true hp]
      refine En.step (fun k => by simp only [spec_l8DrawBoth.j1]; rfl) ?_
      refine En.ite (fun _ => ?_) (fun z => absurd trivial z)
      refine En.bind (belowR_en c hc _ _ _ h0 (by decide)) (fun r hr => ?_)
      refine En.bind (belowR_en c hc _ _ _ hr.2 hp) (fun s hs => ?_)
      refine En.ite (fun _ => En.ite (fun _ => ?_) (fun z => absurd hs.1.2 z)) (fun z => absurd hs.1.1 z)
      obtain ⟨q, hq⟩ := ask_ex l r.1 (rd_T32 T s.1).f0
      refine En.bind ⟨q, sAsk_ev l (lk_short l hl) _ _ q hq, rfl⟩ (fun t ht => ?_)
      subst ht
      rw [e]
      exact ih (x + 1) _ _ _ (by omega) (by omega) (ask_ok l hl _ _ q hq).1 hs.2
    · rw [decide_eq_false hp]
      exact drawBoth_end c hc T hT l hl _ _ _ _ h0
theorem draw3j_en (l : List Int) (i h : Int) (h0 : 0 ≤ i) (a0 a1 a2 a3 : Int) (a4 : Bool) (a5 a6 a7 a8 a9 a10 a11 a12 a13 : Int) : En (fun k => spec_l3Draw.j0 k l i h a0 a1 a2 a3 a4 a5 a6 a7 a8 a9 a10 a11 a12 a13) (fun r => 0 ≤ r.2.2.2.2.2.2.2.2.2.2.2.2.2.2.1) := by
  refine En.step (fun k => by simp only [spec_l3Draw.j0]; rfl) ?_
  exact En.now h0
theorem drawRight0_en (l : List Int) (hl : l.length ≤ maxLen) (i h : Int) (h0 : 0 ≤ i) (a0 a1 a2 a3 : Int) (a4 : Bool) (a5 a6 a7 a8 a9 a10 a11 a12 a13 : Int) : En (fun k => spec_l3DrawRight.j0 k l i h a0 a1 a2 a3 a4 a5 a6 a7 a8 a9 a10 a11 a12 a13) (fun r => 0 ≤ r.2.2.2.2.2.2.2.2.2.2.2.2.2.2.1) := by
  refine En.step (fun k => by simp only [spec_l3DrawRight.j0]; rfl) ?_
  refine En.bind (once_en l hl _ _ _ h0) (fun r hr => ?_)
  refine En.ite (fun _ => ?_) (fun _ => ?_)
  all_goals
    refine En.bind (once_en l hl _ _ _ hr) (fun s hs => ?_)
    exact En.now hs
theorem snew_some (a0 a1 a2 a3 : Int) (a4 : Bool) (a5 a6 a7 a8 a9 a10 a11 a12 a13 : Int) : ∃ r, spec_l3New.f a0 a1 a2 a3 a4 a5 a6 a7 a8 a9 a10 a11 a12 a13 = some r := by
  unfold spec_l3New.f spec_TaskOk.f
  simp only [Option.bind_some]
  split <;> exact ⟨_, rfl⟩
theorem sshare_eq (q p : Int) : spec_ShareOk.f q p = some (decide (ShareP q p)) := by
  unfold spec_ShareOk.f ShareP
  simp only [sin_eq, Option.bind_some, decide_eq_true_eq]
  by_cases h : 1 ≤ p ∧ p ≤ 40
  · simp only [h, and_self, if_true, true_and]
  · simp only [h, if_false, false_and, decide_false]
theorem snewDue_some (no cpu q p now : Int) : ∃ r, spec_NewDue.f no cpu q p now = some r := by
  unfold spec_NewDue.f
  obtain ⟨r, hr⟩ := snew_some no 1 cpu 1 false q p q (wrap64 (now + p)) 0 0 0 0 0
  simp only [sin_eq, sshare_eq, hr, Option.bind_some]
  repeat' split
  all_goals exact ⟨_, rfl⟩
theorem snewFair_some (no cpu nice v : Int) : ∃ r, spec_NewFair.f no cpu nice v = some r := by
  unfold spec_NewFair.f
  obtain ⟨r, hr⟩ := snew_some no 3 cpu 1 false 0 0 0 0 0 0 0 nice v
  simp only [hr, Option.bind_some]
  exact ⟨_, rfl⟩
theorem snewFixed_some (no cpu prio round seq : Int) : ∃ r, spec_NewFixed.f no cpu prio round seq = some r := by
  unfold spec_NewFixed.f
  obtain ⟨r, hr⟩ := snew_some no 2 cpu 1 false 0 0 round 0 prio round seq 0 0
  simp only [hr, Option.bind_some]
  exact ⟨_, rfl⟩
theorem some_en {α : Type} {o : Option α} (h : ∃ r, o = some r) : En (fun _ => o) (fun _ => True) := by
  obtain ⟨r, e⟩ := h
  exact En.of ⟨r, e, trivial⟩
theorem drawRight_en (l : List Int) (hl : l.length ≤ maxLen) (i h : Int) (h0 : 0 ≤ i) : En (fun k => spec_l3DrawRight.f k l i h) (fun r => 0 ≤ r.2.2.2.2.2.2.2.2.2.2.2.2.2.2.1) := by
  unfold spec_l3DrawRight.f
  refine En.bind (below_en l hl _ _ _ h0) (fun r1 h1 => ?_)
  refine En.bind (below_en l hl _ _ _ h1) (fun r2 h2 => ?_)
  refine En.bind (below_en l hl _ _ _ h2) (fun r3 h3 => ?_)
  refine En.ite (fun _ => ?_) (fun _ => En.ite (fun _ => ?_) (fun _ => ?_))
  · refine En.bind (below_en l hl _ _ _ h3) (fun r4 h4 => ?_)
    refine En.bind (below_en l hl _ _ _ h4) (fun r5 h5 => ?_)
    refine En.bind (below_en l hl _ _ _ h5) (fun r6 h6 => ?_)
    refine En.bind (some_en (snewDue_some _ _ _ _ _)) (fun r7 _ => ?_)
    refine En.bind (below_en l hl _ _ _ h6) (fun r8 h8 => ?_)
    exact drawRight0_en l hl _ _ h8 _ _ _ _ _ _ _ _ _ _ _ _ _ _
  · refine En.bind (below_en l hl _ _ _ h3) (fun r4 h4 => ?_)
    refine En.bind (below_en l hl _ _ _ h4) (fun r5 h5 => ?_)
    refine En.bind (below_en l hl _ _ _ h5) (fun r6 h6 => ?_)
    refine En.bind (some_en (snewFixed_some _ _ _ _ _)) (fun r7 _ => ?_)
    refine En.ite (fun _ => ?_) (fun _ => ?_)
    · refine En.bind (below_en l hl _ _ _ h6) (fun r8 h8 => ?_)
      exact drawRight0_en l hl _ _ h8 _ _ _ _ _ _ _ _ _ _ _ _ _ _
    · exact drawRight0_en l hl _ _ h6 _ _ _ _ _ _ _ _ _ _ _ _ _ _
  · refine En.bind (below_en l hl _ _ _ h3) (fun r4 h4 => ?_)
    refine En.bind (below_en l hl _ _ _ h4) (fun r5 h5 => ?_)
    refine En.bind (some_en (snewFair_some _ _ _ _)) (fun r7 _ => ?_)
    exact drawRight0_en l hl _ _ h5 _ _ _ _ _ _ _ _ _ _ _ _ _ _
theorem draw3_en (l : List Int) (hl : l.length ≤ maxLen) (i h : Int) (h0 : 0 ≤ i) : En (fun k => spec_l3Draw.f k l i h) (fun r => 0 ≤ r.2.2.2.2.2.2.2.2.2.2.2.2.2.2.1) := by
  unfold spec_l3Draw.f
  refine En.bind (drawRight_en l hl i h h0) (fun r1 h1 => ?_)
  refine En.bind (below_en l hl _ _ _ h1) (fun r2 h2 => ?_)
  refine En.ite (fun _ => En.bind (pick_en l hl _ _ _ _ h2) (fun r3 h3 => draw3j_en l _ _ h3 _ _ _ _ _ _ _ _ _ _ _ _ _ _)) (fun _ => ?_)
  refine En.ite (fun _ => En.bind (pick_en l hl _ _ _ _ h2) (fun r3 h3 => draw3j_en l _ _ h3 _ _ _ _ _ _ _ _ _ _ _ _ _ _)) (fun _ => ?_)
  refine En.ite (fun _ => En.bind (below_en l hl _ _ _ h2) (fun r3 h3 => draw3j_en l _ _ h3 _ _ _ _ _ _ _ _ _ _ _ _ _ _)) (fun _ => ?_)
  refine En.ite (fun _ => En.bind (below_en l hl _ _ _ h2) (fun r3 h3 => draw3j_en l _ _ h3 _ _ _ _ _ _ _ _ _ _ _ _ _ _)) (fun _ => ?_)
  refine En.ite (fun _ => En.bind (below_en l hl _ _ _ h2) (fun r3 h3 => draw3j_en l _ _ h3 _ _ _ _ _ _ _ _ _ _ _ _ _ _)) (fun _ => ?_)
  refine En.ite (fun _ => En.bind (pick_en l hl _ _ _ _ h2) (fun r3 h3 => draw3j_en l _ _ h3 _ _ _ _ _ _ _ _ _ _ _ _ _ _)) (fun _ => ?_)
  refine En.ite (fun _ => En.bind (pick_en l hl _ _ _ _ h2) (fun r3 h3 => draw3j_en l _ _ h3 _ _ _ _ _ _ _ _ _ _ _ _ _ _)) (fun _ => ?_)
  refine En.ite (fun _ => En.bind (below_en l hl _ _ _ h2) (fun r3 h3 => draw3j_en l _ _ h3 _ _ _ _ _ _ _ _ _ _ _ _ _ _)) (fun _ => ?_)
  exact draw3j_en l _ _ h2 _ _ _ _ _ _ _ _ _ _ _ _ _ _
theorem sTasksOk_en (l : List S32) (hl : l.length ≤ 1048576000) : En (fun k => spec_TasksOk.f k l) (fun _ => True) := ⟨_, sTasksOk_ev l hl, trivial⟩
theorem taskPut_end (l x6 : List S32) (hl : l.length ≤ 1000) (h6 : x6.length ≤ l.length + 1) : En (fun k => (spec_TasksOk.f k x6).bind fun t => (if t = true then (some (x6, true)) else ((some (([] : List (S32)) : List (S32))).bind fun y => (if y.length + l.length < 1256584717458 then (some ((y ++ l), false)) else (none))))) (fun r => r.1.length ≤ l.length + 1) := by
  refine En.bind (sTasksOk_en x6 (by omega)) (fun t _ => ?_)
  refine En.ite (fun _ => En.now h6) (fun _ => ?_)
  simp only [Option.bind_some]
  refine En.ite (fun _ => En.now ?_) (fun h => absurd (by simp only [List.length_nil]; omega) h)
  simp only [List.nil_append]
  omega
theorem taskPut_loop (l : List S32) (hl : l.length ≤ 1000) : ∀ (d i : Nat) (x6 : List S32) (x7 : Bool) (a0 a1 a2 a3 : Int) (a4 : Bool) (a5 a6 a7 a8 a9 a10 a11 a12 a13 : Int), l.length - i = d → i ≤ l.length → x6.length ≤ i + x7.toNat → En (fun k => spec_TaskPut.l0 k l x6 x7 (i : Int) a0 a1 a2 a3 a4 a5 a6 a7 a8 a9 a10 a11 a12 a13) (fun r => r.1.length ≤ l.length + 1) := by
  intro d
  induction d with
  | zero =>
    intro i x6 x7 a0 a1 a2 a3 a4 a5 a6 a7 a8 a9 a10 a11 a12 a13 hd hi hx
    refine En.step (fun k => by simp only [spec_TaskPut.l0]; rfl) ?_
    refine En.ite (fun h => absurd h (by omega)) (fun _ => ?_)
    cases x7 with
    | true =>
      simp only [Bool.toNat_true] at hx
      exact En.ite (fun _ => taskPut_end l x6 hl (by omega)) (fun h => absurd rfl h)
    | false =>
      simp only [Bool.toNat_false] at hx
      refine En.ite (fun h => absurd h (by decide)) (fun _ => ?_)
      refine En.ite (fun _ => ?_) (fun h => absurd (by omega) h)
      simp only [Option.bind_some]
      exact taskPut_end l _ hl (by rw [List.length_append, List.length_singleton]; omega)
  | succ d ih =>
    intro i x6 x7 a0 a1 a2 a3 a4 a5 a6 a7 a8 a9 a10 a11 a12 a13 hd hi hx
    refine En.step (fun k => by simp only [spec_TaskPut.l0]; rfl) ?_
    refine En.ite (fun _ => ?_) (fun h => absurd (by omega) h)
    have e : wrap64 ((i : Int) + 1) = ((i + 1 : Nat) : Int) := by rw [wr _ (by omega) (by omega)]; omega
    cases x7 with
    | true =>
      simp only [Bool.toNat_true] at hx
      refine En.ite (fun _ => ?_) (fun h => absurd rfl h)
      refine En.ite (fun _ => ?_) (fun h => absurd (by omega) h)
      refine En.ite (fun _ => ?_) (fun h => absurd (by omega) h)
      rw [e]
      exact ih (i + 1) _ true a0 a1 a2 a3 a4 a5 a6 a7 a8 a9 a10 a11 a12 a13 (by omega) (by omega) (by rw [List.length_append, List.length_singleton, Bool.toNat_true]; omega)
    | false =>
      simp only [Bool.toNat_false] at hx
      refine En.ite (fun h => absurd h (by decide)) (fun _ => ?_)
      refine En.ite (fun _ => ?_) (fun h => absurd (by omega) h)
      refine En.ite (fun _ => ?_) (fun _ => ?_)
      · refine En.ite (fun _ => ?_) (fun h => absurd (by omega) h)
        simp only [Option.bind_some]
        refine En.ite (fun _ => ?_) (fun h => absurd (by rw [List.length_append, List.length_singleton]; omega) h)
        rw [e]
        exact ih (i + 1) _ true a0 a1 a2 a3 a4 a5 a6 a7 a8 a9 a10 a11 a12 a13 (by omega) (by omega) (by rw [List.length_append, List.length_append, List.length_singleton, List.length_singleton, Bool.toNat_true]; omega)
      · refine En.ite (fun _ => ?_) (fun h => absurd (by omega) h)
        rw [e]
        exact ih (i + 1) _ false a0 a1 a2 a3 a4 a5 a6 a7 a8 a9 a10 a11 a12 a13 (by omega) (by omega) (by rw [List.length_append, List.length_singleton, Bool.toNat_false]; omega)
theorem taskPut_en (l : List S32) (hl : l.length ≤ 1000) (a0 a1 a2 a3 : Int) (a4 : Bool) (a5 a6 a7 a8 a9 a10 a11 a12 a13 : Int) : En (fun k => spec_TaskPut.f k l a0 a1 a2 a3 a4 a5 a6 a7 a8 a9 a10 a11 a12 a13) (fun r => r.1.length ≤ l.length + 1) := by
  unfold spec_TaskPut.f
  refine En.bind (sTasksOk_en l (by omega)) (fun t _ => ?_)
  refine En.ite (fun _ => taskPut_loop l hl l.length 0 [] false a0 a1 a2 a3 a4 a5 a6 a7 a8 a9 a10 a11 a12 a13 (by omega) (by omega) (by simp)) (fun _ => En.now (by simp))
theorem drawList_loop (l : List Int) (hl : l.length ≤ maxLen) (m : Nat) (hm : m ≤ 30) : ∀ (d x : Nat) (i h : Int) (y : List S32), m - x = d → x ≤ m → y.length ≤ x → 0 ≤ i → En (fun k => spec_l3DrawList.l0 k y (m : Int) (x : Int) l i h) (fun r => r.1.length ≤ 31 ∧ 0 ≤ r.2.1) := by
  intro d
  induction d with
  | zero =>
    intro x i h y hd hx hy h0
    refine En.step (fun k => by simp only [spec_l3DrawList.l0]; rfl) ?_
    refine En.ite (fun h => absurd h (by omega)) (fun _ => ?_)
    refine En.bind (once_en l hl _ _ _ h0) (fun r hr => ?_)
    refine En.ite (fun _ => ?_) (fun _ => En.now ⟨show y.length ≤ 31 by omega, hr⟩)
    refine En.bind (draw3_en l hl _ _ hr) (fun s hs => ?_)
    refine En.ite (fun _ => En.now ⟨?_, hs⟩) (fun h => absurd (by omega) h)
    rw [List.length_append, List.length_singleton]
    omega
  | succ d ih =>
    intro x i h y hd hx hy h0
    refine En.step (fun k => by simp only [spec_l3DrawList.l0]; rfl) ?_
    refine En.ite (fun _ => ?_) (fun h => absurd (by omega) h)
    have e : wrap64 ((x : Int) + 1) = ((x + 1 : Nat) : Int) := by rw [wr _ (by omega) (by omega)]; omega
    refine En.bind (drawRight_en l hl _ _ h0) (fun r hr => ?_)
    refine En.bind (taskPut_en y (by omega) _ _ _ _ _ _ _ _ _ _ _ _ _ _) (fun s hs => ?_)
    rw [e]
    exact En.ite (fun _ => ih (x + 1) _ _ _ (by omega) (by omega) (by omega) hr) (fun _ => ih (x + 1) _ _ _ (by omega) (by omega) (by omega) hr)
theorem drawList_en (l : List Int) (hl : l.length ≤ maxLen) (i h : Int) (h0 : 0 ≤ i) : En (fun k => spec_l3DrawList.f k l i h) (fun r => r.1.length ≤ 31 ∧ 0 ≤ r.2.1) := by
  unfold spec_l3DrawList.f
  simp only [Option.bind_some]
  refine En.bind (belowR_en l hl _ _ _ h0 (by decide)) (fun r hr => ?_)
  refine En.bind (once_en l hl _ _ _ hr.2) (fun s hs => ?_)
  refine En.ite (fun _ => ?_) (fun _ => ?_)
  · refine En.step (fun k => by simp only [spec_l3DrawList.j0]; rfl) ?_
    exact drawList_loop l hl 30 (by omega) 30 0 _ _ [] (by omega) (by omega) (by simp) hs
  · refine En.step (fun k => by simp only [spec_l3DrawList.j0]; rfl) ?_
    have := drawList_loop l hl r.1.toNat (by omega) r.1.toNat 0 s.2.1 s.2.2 [] (by omega) (by omega) (by simp) hs
    rw [show ((r.1.toNat : Nat) : Int) = r.1 by omega] at this
    exact this
/-! The cursor over the drawn bytes: whatever it holds, a draw answers. -/
theorem new_loop (l : List Int) (hl : l.length ≤ maxLen) (d : Nat) : ∀ (k : Nat) (h i : Int), 0 ≤ i → (l.length : Int) - i ≤ d → d < k → ∃ h', spec_l1New.l0 k l h i = some (l, 0, h') := by
  unfold maxLen at hl
  induction d with
  | zero =>
    intro k h i h0 hd hk
    obtain ⟨k, rfl⟩ : ∃ m, k = m + 1 := ⟨k - 1, by omega⟩
    exact ⟨h, by simp only [spec_l1New.l0]; rw [if_neg (by omega)]⟩
  | succ d ih =>
    intro k h i h0 hd hk
    obtain ⟨k, rfl⟩ : ∃ m, k = m + 1 := ⟨k - 1, by omega⟩
    simp only [spec_l1New.l0]
    by_cases e : i < (l.length : Int)
    · rw [if_pos e]
      by_cases e2 : i < 4000
      · rw [if_pos e2, if_pos h0, wr (i + 1) (by omega) (by omega)]
        exact ih k _ _ (by omega) (by omega) (by omega)
      · rw [if_neg e2]
        exact ⟨_, rfl⟩
    · rw [if_neg e]
      exact ⟨_, rfl⟩
theorem new_ev (l : List Int) (hl : l.length ≤ maxLen) : ∃ h, Ev (fun k => spec_l1New.f k l) (l, 0, h) := by
  obtain ⟨h, e⟩ := new_loop l hl l.length (l.length + 1) (wrap64 (18511 + (l.length : Int))) 0 (by omega) (by omega) (by omega)
  exact ⟨h, Ev.of (fun k => spec_l1New.mono l k) e⟩
theorem new_en (l : List Int) (hl : l.length ≤ maxLen) : En (fun k => spec_l1New.f k l) (fun r => r.1 = l ∧ 0 ≤ r.2.1) := by
  obtain ⟨h, e⟩ := new_ev l hl
  exact ⟨_, e, rfl, Int.le_refl _⟩
theorem drawCanTurn_en (c : List Int) (hc : c.length ≤ maxLen) : En (fun k => spec_DrawCanTurn.f k c) (fun r => r.1.length ≤ 31 ∧ shortK r.2.1) := by
  unfold spec_DrawCanTurn.f spec_l8DrawOne.f
  refine En.bind (P := fun r => r.1.length ≤ 31 ∧ shortK r.2.1) ?_ (fun r hr => En.now hr)
  refine En.bind (new_en c hc) (fun r hr => ?_)
  rw [hr.1]
  refine En.bind (P := fun r => r.1.length ≤ 31 ∧ shortK r.2.1 ∧ 0 ≤ r.2.2.1) ?_ (fun s hs => ?_)
  · unfold spec_l8DrawBoth.f
    refine En.bind (drawList_en c hc _ _ hr.2) (fun s hs => ?_)
    refine En.ite (fun _ => ?_) (fun z => absurd (by decide) z)
    refine En.bind (belowR_en c hc _ _ _ hs.2 (by decide)) (fun t ht => ?_)
    have := drawBoth_loop c hc s.1 hs.1 t.1.toNat (by omega) t.1.toNat 0 t.2.1 t.2.2 (List.replicate 3 z41) (by omega) (by omega) (made_lk 3 (by omega)) ht.2
    rw [show ((t.1.toNat : Nat) : Int) = t.1 by omega] at this
    exact this
  · refine En.bind (below_en c hc _ _ _ hs.2.2) (fun t ht => ?_)
    refine En.ite (fun g => ?_) (fun _ => En.now ⟨hs.1, hs.2.1⟩)
    refine En.bind (once_en c hc _ _ _ ht) (fun u hu => ?_)
    refine En.ite (fun _ => En.now ⟨hs.1, hs.2.1⟩) (fun _ => ?_)
    refine En.bind (belowR_en c hc _ _ _ hu g) (fun v hv => ?_)
    exact En.ite (fun _ => En.ite (fun _ => En.now ⟨hs.1, hs.2.1⟩) (fun z => absurd hv.1.2 z)) (fun z => absurd hv.1.1 z)
theorem FnAble : laws_FnAble.Pure := by
  intro c hc _ _
  refine Ev.rounds (r := true) ?_
  unfold laws_FnAble.f laws_big.f
  simp only [Option.bind_some, decide_eq_true_eq]
  by_cases hb : (c.length : Int) > 1048576
  · exact evPos hb (Ev.now _)
  · refine evNeg hb ?_
    obtain ⟨⟨T, l, no⟩, e, hT, hl⟩ := drawCanTurn_en c hc
    have hT : T.length ≤ 31 := hT
    refine Ev.bind e ?_
    simp only []
    obtain ⟨can, able, x, ⟨a1, a2, a3⟩, ⟨b1, b2, b3⟩, h1, h2⟩ := able_all T (by omega) l hl no
    refine Ev.bind a1 (Ev.bind a2 (Ev.bind a3 (Ev.bind b1 (evNeg (by simp) (Ev.bind b2 (evNeg (by simp) (Ev.bind b3 ?_)))))))
    rw [show (x != x) = false by simp]
    refine Ev.step (fun k => by simp only [laws_FnAble.j0, impl_TaskAt.f, impl_WaitAt.f, Option.bind_some]; rfl) ?_
    refine evNeg (by decide) ?_
    cases able with
    | false =>
      refine evNeg (by decide) ?_
      rw [h1 rfl]
      exact Ev.now _
    | true =>
      obtain ⟨⟨k1, k2⟩, ⟨k3, k4⟩, k5, k6, k7⟩ := h2 rfl
      have l1 := tAt_lt T no k1
      have l2 := tAt_lt T x k2
      have fin : Ev (fun k => if waitAt l no ≥ 0 then (some true : Option Bool) else (some (x == no))) true := by
        by_cases z : waitAt l no ≥ 0
        · exact evPos z (Ev.now _)
        · refine evNeg z (evEq _ (fun _ => rfl) (congrArg some ?_))
          rw [k6 (by omega)]
          simp
      refine evPos rfl (evNeg (show ¬ tAt T no < 0 by omega) (evNeg (show ¬ tAt T x < 0 by omega) (evPos k1 (evPos l1 (evPos k3 (evPos k2 (evPos l2 (evPos k4 (evNeg (show ¬ waitAt l x ≥ 0 by omega) ?_)))))))))
      by_cases hf : (rd_T32 T (tAt T no)).f1 = 1
      · rw [if_pos hf] at k7
        refine evPos hf (evPos ?_ fin)
        rw [k7]
        exact beq_self_eq_true _
      · rw [if_neg hf] at k7
        refine evNeg hf (evPos ?_ fin)
        rw [k7]
        rfl

end Go.Proofs.Ythmcgbjfcjbhkaa.Pure
