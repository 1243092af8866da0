/- The pure statement of FnExactLockAsk: at all arguments the program's LockAsk and the reference's agree, as plain functions over numbers and lists. Conditions: those of the statement (numbers of 64 bits, lists that lie in memory). -/
import Derived.Test.YthabcadkaocciaaPrintImplLockAsk
set_option linter.unusedVariables false
set_option linter.unusedSimpArgs false
namespace Go.Proofs.Ythabcadkaocciaa.Pure
open Go.RowKit Go.Proofs.Ythabcadkaocciaa.Print Go.Proofs.YthabcadkaocciaaW.PrintWords Go.Proofs.YthabcadkaocciaaW.PrintLast Go.Proofs.YthabcadkaocciaaW.PrintMore Go.Proofs.Ythabcadkaocciaa.Base

/-! A task as one value, and who stands ahead of whom. -/
structure Tk where
  (f0 f1 f2 f3 : Int)
  f4 : Bool
  (f5 f6 f7 f8 f9 f10 f11 f12 f13 : Int)
def Tk.ok (t : Tk) : Prop := TaskP t.f0 t.f1 t.f2 t.f3 t.f5 t.f6 t.f7 t.f8 t.f9 t.f10 t.f11 t.f12 t.f13
instance (t : Tk) : Decidable (Tk.ok t) := by unfold Tk.ok; infer_instance
def dueLt (a b : Tk) : Prop := (Tk.ok a ∧ a.f1 = 1) ∧ (Tk.ok b ∧ b.f1 = 1) ∧ (a.f8 < b.f8 ∨ a.f8 = b.f8 ∧ a.f0 < b.f0)
instance (a b : Tk) : Decidable (dueLt a b) := by unfold dueLt; infer_instance
def fairLt (a b : Tk) : Prop := (Tk.ok a ∧ a.f1 = 3) ∧ (Tk.ok b ∧ b.f1 = 3) ∧ (a.f13 < b.f13 ∨ a.f13 = b.f13 ∧ a.f0 < b.f0)
instance (a b : Tk) : Decidable (fairLt a b) := by unfold fairLt; infer_instance
def fixLt (a b : Tk) : Prop := (Tk.ok a ∧ a.f1 = 2) ∧ (Tk.ok b ∧ b.f1 = 2) ∧ (a.f9 > b.f9 ∨ a.f9 = b.f9 ∧ (a.f11 < b.f11 ∨ a.f11 = b.f11 ∧ a.f0 < b.f0))
instance (a b : Tk) : Decidable (fixLt a b) := by unfold fixLt; infer_instance
def before (a b : Tk) : Prop := Tk.ok a ∧ Tk.ok b ∧ (a.f1 < b.f1 ∨ dueLt a b ∨ fixLt a b ∨ fairLt a b)
instance (a b : Tk) : Decidable (before a b) := by unfold before; infer_instance
/-- Where a number waits. -/
def waitAt (l : List S45) (v : Int) : Int := idxF (fun t => decide (v ∈ t.f1)) l 0
/-- The owner of what a number waits for. -/
def ownK (l : List S45) (v : Int) : Int := (rd_T45 l (waitAt l v)).f0
/-- The chain of a number: each the owner of what the one before waits for; the last waits for nothing. -/
def IsChain (l : List S45) : Int → List Int → Prop
  | _, [] => False
  | no, x :: o => x = no ∧ ((o = [] ∧ waitAt l no < 0) ∨ (0 ≤ waitAt l no ∧ IsChain l (ownK l no) o))
def okL (x : S45) : Prop := (0 ≤ x.f0 ∧ x.f0 ≤ 1000) ∧ (x.f0 = 0 → x.f1.length = 0)
/-- All that wait. -/
def allW (l : List S45) : List Int := l.flatMap (fun x => x.f1)
/-- Each lock's waits are no more than so many. -/
def shortK (l : List S45) : Prop := l.length ≤ 1048576 ∧ ∀ x ∈ l, x.f1.length ≤ 1048576
/-- Whether the chain of a number comes to an end. -/
noncomputable def chB (l : List S45) (no : Int) : Bool := @ite Bool (shortK l) (Classical.propDecidable _) (@decide (∃ o, Ev (fun k => impl_chain.f k l no) (o, true)) (Classical.propDecidable _)) false
def okN (l : List S45) (w : Int) : Prop := (1 ≤ w ∧ w ≤ 1000) ∧ (allW l).count w = 1 ∧ chB l w = true
/-- What LocksOk says. -/
def lkOk (l : List S45) : Prop := l.length ≤ 5 ∧ ∀ x ∈ l, okL x ∧ ∀ w ∈ x.f1, okN l w
/-- What LockAsk answers. -/
def AskR (l : List S45) (i no : Int) (r : List S45 × Int) : Prop :=
  (¬ lkOk l ∧ r = ([], 2)) ∨
  (lkOk l ∧ (¬ (0 ≤ i ∧ i < (l.length : Int)) ∨ ¬ (1 ≤ no ∧ no ≤ 1000) ∨ 0 ≤ waitAt l no) ∧ r = (l, 2)) ∨
  (lkOk l ∧ (1 ≤ no ∧ no ≤ 1000) ∧ waitAt l no < 0 ∧ ∃ j : Nat, ∃ hj : j < l.length, i = (j : Int) ∧
    (((l[j]).f0 = no ∧ r = (l, 3)) ∨ ((l[j]).f0 ≠ no ∧ (l[j]).f0 = 0 ∧ r = (l.set j ⟨no, (l[j]).f1⟩, 0)) ∨
      ((l[j]).f0 ≠ no ∧ (l[j]).f0 ≠ 0 ∧ ∃ o, IsChain l (l[j]).f0 o ∧ ((no ∈ o ∧ r = (l, 4)) ∨ (no ∉ o ∧ r = (l.set j ⟨(l[j]).f0, (l[j]).f1 ++ [no]⟩, 1))))))
theorem idxF_find {α : Type} (p : α → Bool) : ∀ (l : List α) (i : Int), (idxF p l i = -1 ∧ ∀ t ∈ l, p t = false) ∨ ∃ j : Nat, ∃ h : j < l.length, idxF p l i = i + (j : Int) ∧ p l[j] = true := by
  intro l
  induction l with
  | nil => intro i; exact .inl ⟨rfl, fun t ht => absurd ht (by simp)⟩
  | cons x r ih =>
    intro i
    rw [idxF]
    by_cases h : p x = true
    · rw [if_pos h]
      exact .inr ⟨0, by simp, by simp, h⟩
    · rw [if_neg h]
      rcases ih (i + 1) with ⟨e, g⟩ | ⟨j, hj, e, g⟩
      · refine .inl ⟨e, fun t ht => ?_⟩
        rcases List.mem_cons.1 ht with rfl | ht
        · exact Bool.eq_false_iff.2 h
        · exact g t ht
      · refine .inr ⟨j + 1, by simp only [List.length_cons]; omega, by rw [e]; omega, ?_⟩
        rw [List.getElem_cons_succ]
        exact g
theorem idxK (l : List S45) (v : Int) : waitAt l v = -1 ∨ (0 ≤ waitAt l v ∧ waitAt l v < (l.length : Int)) := by
  rcases idxF_find (fun t : S45 => decide (v ∈ t.f1)) l 0 with ⟨e, _⟩ | ⟨j, hj, e, _⟩
  · exact .inl e
  · refine .inr ?_
    unfold waitAt
    rw [e]
    omega
theorem rd_at (l : List Int) (i : Nat) (h : i < l.length) : rd l (i : Int) = l[i] := by
  unfold rd
  rw [Int.toNat_natCast, List.getD_eq_getElem?_getD, List.getElem?_eq_getElem h, Option.getD_some]
theorem hasE_loop (l : List Int) (hl : l.length ≤ 1048576000) (v : Int) : ∀ (d i : Nat), l.length - i = d → i ≤ l.length → Ev (fun k => spec_l7Has.l0 k l v (i : Int)) (decide (v ∈ l.drop i)) := by
  intro d
  induction d with
  | zero =>
    intro i hd hi
    refine Ev.step (fun k => by simp only [spec_l7Has.l0]; rfl) ?_
    refine evNeg (by omega) ?_
    rw [List.drop_eq_nil_of_le (by omega)]
    exact evEq _ (fun _ => rfl) (by simp)
  | succ d ih =>
    intro i hd hi
    have hi2 : i < l.length := by omega
    refine Ev.step (fun k => by simp only [spec_l7Has.l0]; rfl) ?_
    refine evPos (by omega) (evPos (by omega) ?_)
    rw [rd_at l i hi2, List.drop_eq_getElem_cons hi2, wr _ (by omega) (by omega)]
    by_cases h : l[i] = v
    · exact evPos h (evEq _ (fun _ => rfl) (by simp [h]))
    · refine evNeg h ?_
      rw [show decide (v ∈ l[i] :: l.drop (i + 1)) = decide (v ∈ l.drop (i + 1)) from decide_eq_decide.2 (by rw [List.mem_cons]; exact ⟨fun x => x.resolve_left fun e => h e.symm, .inr⟩)]
      exact ih (i + 1) (by omega) (by omega)
theorem hasE_ev (l : List Int) (hl : l.length ≤ 1048576000) (v : Int) : Ev (fun k => spec_l7Has.f k l v) (decide (v ∈ l)) := hasE_loop l hl v l.length 0 (by omega) (by omega)
theorem rdK (l : List S45) (i : Nat) (h : i < l.length) : rd_T45 l (i : Int) = l[i] := by
  unfold rd_T45
  rw [Int.toNat_natCast, List.getD_eq_getElem?_getD, List.getElem?_eq_getElem h, Option.getD_some]
theorem sWaitAt_loop (l : List S45) (hl : shortK l) (v : Int) : ∀ (d i : Nat), l.length - i = d → i ≤ l.length → Ev (fun k => spec_WaitAt.l0 k l v (i : Int)) (idxF (fun t => decide (v ∈ t.f1)) (l.drop i) (i : Int)) := by
  obtain ⟨hl1, hl2⟩ := hl
  intro d
  induction d with
  | zero =>
    intro i hd hi
    refine Ev.step (fun k => by simp only [spec_WaitAt.l0]; rfl) ?_
    refine evNeg (by omega) ?_
    rw [List.drop_eq_nil_of_le (by omega), idxF]
    exact Ev.now _
  | succ d ih =>
    intro i hd hi
    have hi2 : i < l.length := by omega
    have e : wrap64 ((i : Int) + 1) = ((i + 1 : Nat) : Int) := by rw [wr _ (by omega) (by omega)]; omega
    refine Ev.step (fun k => by simp only [spec_WaitAt.l0]; rfl) ?_
    refine evPos (by omega) (evPos (by omega) ?_)
    rw [rdK l i hi2, e, List.drop_eq_getElem_cons hi2, idxF]
    refine Ev.bind (hasE_ev _ (by have := hl2 l[i] (List.getElem_mem hi2); omega) v) ?_
    by_cases h : v ∈ (l[i]).f1
    · rw [if_pos (decide_eq_true h)]
      exact evPos (decide_eq_true h) (Ev.now _)
    · rw [if_neg (by rw [decide_eq_true_eq]; exact h)]
      exact evNeg (by rw [decide_eq_true_eq]; exact h) (ih (i + 1) (by omega) (by omega))
theorem sWaitAt_ev (l : List S45) (hl : shortK l) (v : Int) : Ev (fun k => spec_WaitAt.f k l v) (waitAt l v) := sWaitAt_loop l hl v l.length 0 (by omega) (by omega)
/-- From a number of C on there is no end. -/
theorem chain_round (l : List S45) (hl : shortK l) (C : List Int) (hC : ∀ x ∈ C, 0 ≤ waitAt l x ∧ ownK l x ∈ C) : ∀ (d j : Nat) (no : Int) (out : List Int), l.length + 1 - j = d → j ≤ l.length + 1 → out.length ≤ j + 1 → no ∈ C → ∃ s, Ev (fun k => spec_l7Chain.l0 k l no out (j : Int)) (s, false) := by
  have hl1 := hl.1
  intro d
  induction d with
  | zero =>
    intro j no out hd hj ho hn
    refine ⟨out, Ev.step (fun k => by simp only [spec_l7Chain.l0]; rfl) ?_⟩
    exact evNeg (by omega) (Ev.now _)
  | succ d ih =>
    intro j no out hd hj ho hn
    have e : wrap64 ((j : Int) + 1) = ((j + 1 : Nat) : Int) := by rw [wr _ (by omega) (by omega)]; omega
    obtain ⟨h0, h1⟩ := hC no hn
    have hlt := (idxK l no).resolve_left (by omega)
    obtain ⟨s, hs⟩ := ih (j + 1) (ownK l no) (out ++ [ownK l no]) (by omega) (by omega) (by rw [List.length_append, List.length_singleton]; omega) h1
    refine ⟨s, Ev.step (fun k => by simp only [spec_l7Chain.l0]; rfl) ?_⟩
    refine evPos (by omega) (Ev.bind (sWaitAt_ev l hl no) (evNeg (by omega) (evPos h0 (evPos hlt.2 (evPos (by omega) ?_)))))
    rw [e]
    exact hs
theorem contP_loop (l : List Int) (v : Int) (hm : l.length ≤ 9223372036854775807) : ∀ (k i : Nat), l.length - i < k → ∃ r, slices_Index_int_int.l0 k l v (l.length : Int) (i : Int) = some r ∧ decide (r ≥ 0) = decide (v ∈ l.drop i) := by
  intro k
  induction k with
  | zero => intro i h; omega
  | succ k ih =>
    intro i h
    simp only [slices_Index_int_int.l0]
    by_cases hi : i < l.length
    · rw [if_pos (by omega), if_pos (by omega), if_pos (by omega), rd_at l i hi, wr _ (by omega) (by omega), List.drop_eq_getElem_cons hi]
      by_cases e : v = l[i]
      · rw [if_pos e]
        exact ⟨_, rfl, decide_eq_decide.2 ⟨fun _ => by rw [e]; exact List.mem_cons_self, fun _ => by omega⟩⟩
      · rw [if_neg e]
        obtain ⟨r, q, g⟩ := ih (i + 1) (by omega)
        refine ⟨r, q, g.trans (decide_eq_decide.2 ?_)⟩
        rw [List.mem_cons]
        exact ⟨.inr, fun x => x.resolve_left e⟩
    · rw [if_neg (by omega), List.drop_eq_nil_of_le (by omega)]
      exact ⟨_, rfl, rfl⟩
theorem contP_val (l : List Int) (v : Int) (hm : l.length ≤ 9223372036854775807) : slices_Contains_int_int.f (l.length + 1) l v = some (decide (v ∈ l)) := by
  obtain ⟨r, h, e⟩ := contP_loop l v hm (l.length + 1) 0 (by omega)
  unfold slices_Contains_int_int.f slices_Index_int_int.f
  have h : slices_Index_int_int.l0 (l.length + 1) l v (l.length : Int) 0 = some r := h
  rw [h, Option.bind_some, e]
  rfl
theorem cont_ev (l : List Int) (hl : l.length ≤ 9223372036854775807) (v : Int) : Ev (fun k => slices_Contains_int_int.f k l v) (decide (v ∈ l)) := Ev.of (fun k => slices_Contains_int_int.mono l v k) (contP_val l v (by omega))
theorem nat_nodup_le : ∀ (n : Nat) (I : List Nat), I.Nodup → (∀ i ∈ I, i < n) → I.length ≤ n := by
  intro n
  induction n with
  | zero =>
    intro I _ h
    cases I with
    | nil => exact Nat.le_refl _
    | cons x r => exact absurd (h x List.mem_cons_self) (by omega)
  | succ n ih =>
    intro I hn h
    have a := ih (I.erase n) (hn.erase n) (fun i hi => by
      have hm := (List.Nodup.mem_erase_iff hn).1 hi
      have := h i hm.2
      have := hm.1
      omega)
    by_cases hm : n ∈ I
    · rw [List.length_erase_of_mem hm] at a
      omega
    · rw [List.erase_of_not_mem hm] at a
      omega
theorem chain_sim (l : List S45) (hl : shortK l) : ∀ (d j : Nat) (pre : List Int) (no : Int), l.length + 1 - j = d → j ≤ l.length → pre.length = j → (pre.map (waitAt l)).Nodup → (∀ x ∈ pre, 0 ≤ waitAt l x ∧ ownK l x ∈ pre ++ [no]) → ∃ (b : Bool) (o s : List Int), Ev (fun k => impl_chain.l0 k l no (pre ++ [no])) (o, b) ∧ Ev (fun k => spec_l7Chain.l0 k l no (pre ++ [no]) (j : Int)) (s, b) ∧ (b = true → s = o) ∧ (b = false → o = []) ∧ (b = true → o.length ≤ l.length + 1 ∧ ∃ t, o = pre ++ no :: t) := by
  have hl1 := hl.1
  intro d
  induction d with
  | zero =>
    intro j pre no hd hj hp hn hpre
    omega
  | succ d ih =>
    intro j pre no hd hj hp hn hpre
    have e : wrap64 ((j : Int) + 1) = ((j + 1 : Nat) : Int) := by rw [wr _ (by omega) (by omega)]; omega
    have hlen : (pre ++ [no]).length = j + 1 := by rw [List.length_append, List.length_singleton, hp]
    rcases idxK l no with hw | ⟨h0, hlt⟩
    · refine ⟨true, pre ++ [no], pre ++ [no], ?_, ?_, fun _ => rfl, fun h => absurd h (by decide), fun _ => ⟨by omega, [], rfl⟩⟩
      · refine Ev.step (fun k => by simp only [impl_chain.l0, impl_WaitAt.f, Option.bind_some]; rfl) ?_
        exact evPos (show waitAt l no < 0 by omega) (Ev.now _)
      · refine Ev.step (fun k => by simp only [spec_l7Chain.l0]; rfl) ?_
        exact evPos (by omega) (Ev.bind (sWaitAt_ev l hl no) (evPos (by omega) (Ev.now _)))
    · by_cases hc : ownK l no ∈ pre ++ [no]
      · have hC : ∀ x ∈ pre ++ [no], 0 ≤ waitAt l x ∧ ownK l x ∈ pre ++ [no] := by
          intro x hx
          rcases List.mem_append.1 hx with hx | hx
          · exact hpre x hx
          · rw [List.mem_singleton.1 hx]
            exact ⟨h0, hc⟩
        obtain ⟨s, hs⟩ := chain_round l hl (pre ++ [no]) hC (l.length + 1 - j) j no (pre ++ [no]) rfl (by omega) (by omega) (by simp)
        refine ⟨false, [], s, ?_, hs, fun h => absurd h (by decide), fun _ => rfl, fun h => absurd h (by decide)⟩
        refine Ev.step (fun k => by simp only [impl_chain.l0, impl_WaitAt.f, Option.bind_some]; rfl) ?_
        refine evNeg (show ¬ waitAt l no < 0 by omega) (evPos h0 (evPos hlt (Ev.bind (cont_ev _ (by omega) _) ?_)))
        exact evPos (decide_eq_true hc) (Ev.now _)
      · have hn2 : ((pre ++ [no]).map (waitAt l)).Nodup := by
          rw [List.map_append, List.nodup_append]
          refine ⟨hn, by simp, ?_⟩
          intro a ha b hb hab
          simp only [List.map_cons, List.map_nil, List.mem_singleton] at hb
          obtain ⟨x, hx, rfl⟩ := List.mem_map.1 ha
          have ho : ownK l x = ownK l no := by unfold ownK; rw [hab, hb]
          have := (hpre x hx).2
          rw [ho] at this
          exact hc this
        have hpg := nat_nodup_le l.length ((pre ++ [no]).map (fun x => (waitAt l x).toNat)) (by
          have := hn2
          rw [show ((pre ++ [no]).map (fun x => (waitAt l x).toNat)) = ((pre ++ [no]).map (waitAt l)).map Int.toNat by rw [List.map_map]; rfl]
          refine List.Pairwise.map _ ?_ (List.Pairwise.and_mem.1 hn2)
          intro a b hab hq
          obtain ⟨x, hx, rfl⟩ := List.mem_map.1 hab.1
          obtain ⟨y, hy, rfl⟩ := List.mem_map.1 hab.2.1
          have ge : ∀ z ∈ pre ++ [no], 0 ≤ waitAt l z := by
            intro z hz
            rcases List.mem_append.1 hz with hz | hz
            · exact (hpre z hz).1
            · rw [List.mem_singleton.1 hz]
              exact h0
          have := ge x hx
          have := ge y hy
          exact hab.2.2 (by omega)) (by
          intro i hi
          obtain ⟨x, hx, rfl⟩ := List.mem_map.1 hi
          rcases idxK l x with q | q
          · rcases List.mem_append.1 hx with hx | hx
            · have := (hpre x hx).1
              omega
            · rw [List.mem_singleton.1 hx] at q
              omega
          · omega)
        rw [List.length_map, hlen] at hpg
        obtain ⟨b, o, s, h1, h2, h3, h4, h5⟩ := ih (j + 1) (pre ++ [no]) (ownK l no) (by omega) hpg hlen hn2 (by
          intro x hx
          rcases List.mem_append.1 hx with hx | hx
          · exact ⟨(hpre x hx).1, List.mem_append.2 (.inl (hpre x hx).2)⟩
          · rw [List.mem_singleton.1 hx]
            exact ⟨h0, by simp⟩)
        refine ⟨b, o, s, ?_, ?_, h3, h4, fun hb => ⟨(h5 hb).1, by obtain ⟨t, ht⟩ := (h5 hb).2; exact ⟨ownK l no :: t, by rw [ht, List.append_assoc]; rfl⟩⟩⟩
        · refine Ev.step (fun k => by simp only [impl_chain.l0, impl_WaitAt.f, Option.bind_some]; rfl) ?_
          refine evNeg (show ¬ waitAt l no < 0 by omega) (evPos h0 (evPos hlt (Ev.bind (cont_ev _ (by omega) _) ?_)))
          exact evNeg (by rw [decide_eq_true_eq]; exact hc) (evPos (by omega) h1)
        · refine Ev.step (fun k => by simp only [spec_l7Chain.l0]; rfl) ?_
          refine evPos (by omega) (Ev.bind (sWaitAt_ev l hl no) (evNeg (by omega) (evPos h0 (evPos hlt (evPos (by omega) ?_)))))
          rw [e]
          exact h2
theorem chain_ex (l : List S45) (hl : shortK l) (no : Int) : ∃ (b : Bool) (o s : List Int), Ev (fun k => impl_chain.f k l no) (o, b) ∧ Ev (fun k => spec_l7Chain.f k l no) (s, b) ∧ (b = true → s = o) ∧ (b = false → o = []) ∧ (b = true → o.length ≤ l.length + 1 ∧ ∃ t, o = no :: t) := chain_sim l hl (l.length + 1) 0 [] no (by omega) (by omega) rfl (by simp) (fun x hx => absurd hx (by simp))
theorem ev_one {α : Type} {f : Nat → Option α} {r s : α} (h : Ev f r) (g : Ev f s) : r = s := by
  obtain ⟨a, ha⟩ := h
  obtain ⟨b, hb⟩ := g
  have := (ha (a + b) (by omega)).symm.trans (hb (a + b) (by omega))
  exact Option.some.inj this
theorem chB_ev (l : List S45) (hl : shortK l) (no : Int) : ∃ o s, Ev (fun k => impl_chain.f k l no) (o, chB l no) ∧ Ev (fun k => spec_l7Chain.f k l no) (s, chB l no) ∧ (chB l no = true → s = o) ∧ (chB l no = false → o = []) ∧ (chB l no = true → o.length ≤ l.length + 1 ∧ ∃ t, o = no :: t) := by
  obtain ⟨b, o, s, h1, h2, h3, h4, h5⟩ := chain_ex l hl no
  have : chB l no = b := by
    unfold chB
    rw [if_pos hl]
    cases b with
    | true => exact @decide_eq_true _ (Classical.propDecidable _) ⟨o, h1⟩
    | false =>
      refine @decide_eq_false _ (Classical.propDecidable _) ?_
      rintro ⟨o2, h⟩
      have := ev_one h h1
      simp at this
  rw [this]
  exact ⟨o, s, h1, h2, h3, h4, h5⟩
theorem chB_all (l : List S45) (hl : shortK l) (h : ∀ x ∈ l, okL x ∧ ∀ w ∈ x.f1, okN l w) (no : Int) : chB l no = true := by
  rcases idxF_find (fun t : S45 => decide (no ∈ t.f1)) l 0 with ⟨e, _⟩ | ⟨j, hj, _, g⟩
  · obtain ⟨o, s, h1, _⟩ := chB_ev l hl no
    have h2 : Ev (fun k => impl_chain.f k l no) ([no], true) := by
      unfold impl_chain.f
      refine Ev.step (fun k => by simp only [impl_chain.l0, impl_WaitAt.f, Option.bind_some]; rfl) ?_
      exact evPos (show waitAt l no < 0 by unfold waitAt; rw [e]; decide) (Ev.now _)
    have := ev_one h1 h2
    exact (Prod.mk.inj this).2
  · have hm : no ∈ (l[j]).f1 := by simpa using g
    exact ((h _ (List.getElem_mem hj)).2 no hm).2.2
theorem chain_back (l : List S45) : ∀ (k : Nat) (no : Int) (out o : List Int), impl_chain.l0 k l no out = some (o, true) → ∃ t, o = out ++ t ∧ IsChain l no (no :: t) := by
  intro k
  induction k with
  | zero => intro no out o h; simp [impl_chain.l0] at h
  | succ k ih =>
    intro no out o h
    simp only [impl_chain.l0, impl_WaitAt.f, Option.bind_some] at h
    by_cases c1 : waitAt l no < 0
    · rw [if_pos (show idxF _ _ _ < 0 from c1)] at h
      have := (Prod.mk.inj (Option.some.inj h)).1
      exact ⟨[], by rw [this, List.append_nil], by simp only [IsChain]; exact ⟨trivial, .inl ⟨trivial, c1⟩⟩⟩
    · rw [if_neg (show ¬ idxF _ _ _ < 0 from c1)] at h
      have c2 : 0 ≤ waitAt l no := by omega
      have c3 := ((idxK l no).resolve_left (by omega)).2
      rw [if_pos (show 0 ≤ idxF _ _ _ from c2), if_pos (show idxF _ _ _ < _ from c3)] at h
      obtain ⟨b, _, h⟩ := Option.bind_eq_some_iff.1 h
      cases b with
      | true => simp at h
      | false =>
        rw [if_neg (by decide)] at h
        split at h
        · obtain ⟨t, e, g⟩ := ih _ _ _ h
          refine ⟨ownK l no :: t, by rw [e, List.append_assoc]; rfl, ?_⟩
          rw [IsChain]
          exact ⟨rfl, .inr ⟨c2, g⟩⟩
        · simp at h
theorem chain_part (l : List S45) : ∀ (o : List Int) (no x : Int), IsChain l no o → x ∈ o → ∃ p s, o = p ++ s ∧ IsChain l x s := by
  intro o
  induction o with
  | nil => intro no x h; exact absurd h (by simp [IsChain])
  | cons y r ih =>
    intro no x h hx
    by_cases e : x = y
    · refine ⟨[], y :: r, rfl, ?_⟩
      have := (by simpa only [IsChain] using h : y = no ∧ _).1
      rw [e, this]
      rw [this] at h
      exact h
    · have hx := (List.mem_cons.1 hx).resolve_left e
      simp only [IsChain] at h
      rcases h.2 with ⟨h2, _⟩ | ⟨_, h2⟩
      · rw [h2] at hx
        exact absurd hx (by simp)
      · obtain ⟨p, s, q, g⟩ := ih _ x h2 hx
        exact ⟨y :: p, s, by rw [q]; rfl, g⟩
theorem chain_uniq (l : List S45) : ∀ (o o2 : List Int) (no : Int), IsChain l no o → IsChain l no o2 → o = o2 := by
  intro o
  induction o with
  | nil => intro o2 no h _; exact absurd h (by simp [IsChain])
  | cons x r ih =>
    intro o2 no h g
    cases o2 with
    | nil => exact absurd g (by simp [IsChain])
    | cons y s =>
      simp only [IsChain] at h g
      obtain ⟨rfl, h⟩ := h
      obtain ⟨rfl, g⟩ := g
      rcases h with ⟨rfl, h⟩ | ⟨h, h2⟩
      · rcases g with ⟨rfl, _⟩ | ⟨g, _⟩
        · rfl
        · omega
      · rcases g with ⟨_, g⟩ | ⟨_, g⟩
        · omega
        · rw [ih s _ h2 g]
theorem chain_nodup (l : List S45) : ∀ (o : List Int) (no : Int), IsChain l no o → o.Nodup := by
  intro o
  induction o with
  | nil => intro no _; exact List.nodup_nil
  | cons y r ih =>
    intro no h
    have h0 := h
    simp only [IsChain] at h
    obtain ⟨rfl, h⟩ := h
    rcases h with ⟨rfl, _⟩ | ⟨_, h2⟩
    · simp
    · refine List.nodup_cons.2 ⟨fun hm => ?_, ih _ h2⟩
      obtain ⟨p, s, q, g⟩ := chain_part l r _ y h2 hm
      have e := chain_uniq l _ _ _ h0 g
      have := congrArg List.length e
      rw [q] at this
      simp at this
      omega
theorem chain_head (l : List S45) (o : List Int) (no : Int) (h : IsChain l no o) : ∃ t, o = no :: t := by
  cases o with
  | nil => exact absurd h (by simp [IsChain])
  | cons x r =>
    simp only [IsChain] at h
    exact ⟨r, by rw [h.1]⟩
theorem chain_step (l : List S45) : ∀ (o : List Int) (no : Int), IsChain l no o → ∀ (i : Nat) (hi : i < o.length), (if h : i + 1 < o.length then 0 ≤ waitAt l o[i] ∧ ownK l o[i] = o[i + 1] else waitAt l o[i] < 0) := by
  intro o
  induction o with
  | nil => intro no h; exact absurd h (by simp [IsChain])
  | cons y r ih =>
    intro no h i hi
    simp only [IsChain] at h
    obtain ⟨rfl, h⟩ := h
    rcases h with ⟨rfl, h⟩ | ⟨h, h2⟩
    · have : i = 0 := by simpa using hi
      subst this
      simpa using h
    · cases i with
      | zero =>
        obtain ⟨t, ht⟩ := chain_head l r _ h2
        subst ht
        simpa using h
      | succ i =>
        have := ih _ h2 i (by simpa using hi)
        simpa using this
theorem chain_len (l : List S45) (o : List Int) (no : Int) (h : IsChain l no o) : o.length ≤ l.length + 1 := by
  have hn := chain_nodup l o no h
  have hs := chain_step l o no h
  have inj : ∀ i j (hi : i + 1 < o.length) (hj : j + 1 < o.length), waitAt l o[i] = waitAt l o[j] → i = j := by
    intro i j hi hj e
    have a := hs i (by omega)
    have b := hs j (by omega)
    rw [dif_pos hi] at a
    rw [dif_pos hj] at b
    have : o[i + 1] = o[j + 1] := by
      rw [← a.2, ← b.2]
      unfold ownK
      rw [e]
    have := (List.getElem_inj hn).1 this
    omega
  have := nat_nodup_le l.length ((List.range (o.length - 1)).map (fun i => (waitAt l (o.getD i 0)).toNat)) (by
    rw [List.nodup_iff_pairwise_ne, List.pairwise_map]
    refine List.Pairwise.imp_of_mem ?_ (List.nodup_range (n := o.length - 1))
    intro i j hi hj hij e
    rw [List.mem_range] at hi hj
    have a := hs i (by omega)
    have b := hs j (by omega)
    rw [dif_pos (by omega)] at a
    rw [dif_pos (by omega)] at b
    rw [List.getD_eq_getElem?_getD, List.getD_eq_getElem?_getD, List.getElem?_eq_getElem (by omega), List.getElem?_eq_getElem (by omega), Option.getD_some, Option.getD_some] at e
    exact hij (inj i j (by omega) (by omega) (by omega))) (by
    intro x hx
    obtain ⟨i, hi, rfl⟩ := List.mem_map.1 hx
    rw [List.mem_range] at hi
    have a := hs i (by omega)
    rw [dif_pos (by omega)] at a
    rw [List.getD_eq_getElem?_getD, List.getElem?_eq_getElem (by omega), Option.getD_some]
    have := (idxK l o[i]).resolve_left (by omega)
    omega)
  rw [List.length_map, List.length_range] at this
  omega
theorem iChain_run (l : List S45) (hl : shortK l) : ∀ (o : List Int) (pre : List Int) (no : Int), IsChain l no o → (pre ++ o).Nodup → (pre ++ o).length ≤ 1048576000 → Ev (fun k => impl_chain.l0 k l no (pre ++ [no])) (pre ++ o, true) := by
  have hl1 := hl.1
  intro o
  induction o with
  | nil => intro pre no h; exact absurd h (by simp [IsChain])
  | cons y r ih =>
    intro pre no h hn hb
    simp only [IsChain] at h
    obtain ⟨rfl, h⟩ := h
    refine Ev.step (fun k => by simp only [impl_chain.l0, impl_WaitAt.f, Option.bind_some]; rfl) ?_
    rcases h with ⟨rfl, h⟩ | ⟨h, h2⟩
    · exact evPos (show waitAt l y < 0 from h) (Ev.now _)
    · have hlt := (idxK l y).resolve_left (by omega)
      obtain ⟨t, ht⟩ := chain_head l r _ h2
      have e : pre ++ y :: r = pre ++ [y] ++ r := by rw [List.append_assoc]; rfl
      rw [e] at hn hb ⊢
      have hc : ownK l y ∉ pre ++ [y] := by
        intro hm
        rw [List.nodup_append] at hn
        exact hn.2.2 _ hm _ (by rw [ht]; simp) rfl
      have hb2 := hb
      rw [List.length_append] at hb2
      refine evNeg (show ¬ waitAt l y < 0 by omega) (evPos h (evPos hlt.2 (Ev.bind (cont_ev _ (by omega) _) ?_)))
      refine evNeg (by rw [decide_eq_true_eq]; exact hc) (evPos (by omega) ?_)
      exact ih (pre ++ [y]) _ h2 hn hb
theorem chain_ok (l : List S45) (hl : shortK l) (no : Int) : chB l no = true ↔ ∃ o, IsChain l no o := by
  obtain ⟨o, s, h1, _, _, h4, h5⟩ := chB_ev l hl no
  constructor
  · intro hb
    rw [hb] at h1
    obtain ⟨k, hk⟩ := h1
    have := hk k (Nat.le_refl _)
    obtain ⟨t, _, g⟩ := chain_back l k no [no] o this
    exact ⟨_, g⟩
  · rintro ⟨o2, h2⟩
    have hl1 := hl.1
    have hq := chain_len l o2 no h2
    have h6 : Ev (fun k => impl_chain.f k l no) (o2, true) := iChain_run l hl o2 [] no h2 (chain_nodup l o2 no h2) (by simp only [List.nil_append]; omega)
    have := ev_one h1 h6
    exact (Prod.mk.inj this).2
theorem allW_cons (x : S45) (r : List S45) : allW (x :: r) = x.f1 ++ allW r := by
  unfold allW
  rw [List.flatMap_cons]
theorem count_part (w : Int) (x : S45) : ∀ (l : List S45), x ∈ l → (x.f1).count w ≤ (allW l).count w := by
  intro l
  induction l with
  | nil => intro h; exact absurd h (by simp)
  | cons y r ih =>
    intro h
    rw [allW_cons, List.count_append]
    rcases List.mem_cons.1 h with rfl | h
    · omega
    · have := ih h
      omega
theorem nodup_count : ∀ (L : List Int), L.Nodup ↔ ∀ w ∈ L, L.count w = 1 := by
  intro L
  induction L with
  | nil => simp
  | cons x r ih =>
    rw [List.nodup_cons, ih]
    constructor
    · rintro ⟨h, g⟩ w hw
      rw [List.count_cons]
      by_cases e : x = w
      · rw [if_pos (by simp [e]), ← e, List.count_eq_zero.2 h]
      · rw [if_neg (by simp [e])]
        exact g w ((List.mem_cons.1 hw).resolve_left fun z => e z.symm)
    · intro h
      have hx := h x List.mem_cons_self
      rw [List.count_cons, if_pos (by simp)] at hx
      have h0 : x ∉ r := List.count_eq_zero.1 (by omega)
      refine ⟨h0, fun w hw => ?_⟩
      have := h w (List.mem_cons_of_mem _ hw)
      rw [List.count_cons, if_neg (by simp only [beq_iff_eq]; intro e; rw [e] at h0; exact h0 hw)] at this
      exact this
theorem lk_len (l : List S45) (h : lkOk l) (x : S45) (hx : x ∈ l) : (x.f1).length ≤ 1001 := by
  have hn : (x.f1).Nodup := by
    rw [nodup_count]
    intro w hw
    have a := count_part w x l hx
    have b := ((h.2 x hx).2 w hw).2.1
    have c := List.count_pos_iff.2 hw
    omega
  have hr : ∀ w ∈ x.f1, 1 ≤ w ∧ w ≤ 1000 := fun w hw => ((h.2 x hx).2 w hw).1
  have := nat_nodup_le 1001 ((x.f1).map Int.toNat) (by
    rw [List.nodup_iff_pairwise_ne, List.pairwise_map]
    refine List.Pairwise.imp_of_mem ?_ hn
    intro a b ha hb hab e
    have := hr a ha
    have := hr b hb
    exact hab (by omega)) (by
    intro i hi
    obtain ⟨w, hw, rfl⟩ := List.mem_map.1 hi
    have := hr w hw
    omega)
  rwa [List.length_map] at this
theorem lk_short (l : List S45) (h : lkOk l) : shortK l := ⟨by have := h.1; omega, fun x hx => by have := lk_len l h x hx; omega⟩
theorem lk_chain (l : List S45) (h : lkOk l) (no : Int) : ∃ o, IsChain l no o := (chain_ok l (lk_short l h) no).1 (chB_all l (lk_short l h) h.2 no)
theorem ask_ex (l : List S45) (i no : Int) : ∃ r, AskR l i no r := by
  by_cases h : lkOk l
  · by_cases h1 : ¬ (0 ≤ i ∧ i < (l.length : Int)) ∨ ¬ (1 ≤ no ∧ no ≤ 1000) ∨ 0 ≤ waitAt l no
    · exact ⟨_, .inr (.inl ⟨h, h1, rfl⟩)⟩
    · have h2 : 0 ≤ i ∧ i < (l.length : Int) := Classical.byContradiction fun z => h1 (.inl z)
      have h3 : 1 ≤ no ∧ no ≤ 1000 := Classical.byContradiction fun z => h1 (.inr (.inl z))
      have h4 : waitAt l no < 0 := Int.not_le.1 fun z => h1 (.inr (.inr z))
      have hj : i.toNat < l.length := by omega
      by_cases e1 : (l[i.toNat]).f0 = no
      · exact ⟨_, .inr (.inr ⟨h, h3, h4, i.toNat, hj, by omega, .inl ⟨e1, rfl⟩⟩)⟩
      · by_cases e2 : (l[i.toNat]).f0 = 0
        · exact ⟨_, .inr (.inr ⟨h, h3, h4, i.toNat, hj, by omega, .inr (.inl ⟨e1, e2, rfl⟩)⟩)⟩
        · obtain ⟨o, ho⟩ := lk_chain l h (l[i.toNat]).f0
          by_cases e3 : no ∈ o
          · exact ⟨_, .inr (.inr ⟨h, h3, h4, i.toNat, hj, by omega, .inr (.inr ⟨e1, e2, o, ho, .inl ⟨e3, rfl⟩⟩)⟩)⟩
          · exact ⟨_, .inr (.inr ⟨h, h3, h4, i.toNat, hj, by omega, .inr (.inr ⟨e1, e2, o, ho, .inr ⟨e3, rfl⟩⟩)⟩)⟩
  · exact ⟨_, .inl ⟨h, rfl⟩⟩
theorem count_set (a : Int) (ws : List Int) (w : Int) : ∀ (l : List S45) (i : Nat) (hi : i < l.length), (allW (l.set i ⟨a, ws⟩)).count w + ((l[i]).f1).count w = (allW l).count w + ws.count w := by
  intro l
  induction l with
  | nil => intro i hi; exact absurd hi (by simp)
  | cons x r ih =>
    intro i hi
    cases i with
    | zero =>
      rw [List.set_cons_zero, allW_cons, allW_cons, List.count_append, List.count_append, List.getElem_cons_zero]
      simp only
      omega
    | succ i =>
      have := ih i (by simpa using hi)
      rw [List.set_cons_succ, allW_cons, allW_cons, List.count_append, List.count_append, List.getElem_cons_succ]
      omega
theorem allW_mem (l : List S45) (w : Int) : w ∈ allW l ↔ ∃ x ∈ l, w ∈ x.f1 := List.mem_flatMap
theorem lk_iff (l : List S45) : lkOk l ↔ l.length ≤ 5 ∧ (∀ x ∈ l, okL x) ∧ ∀ w ∈ allW l, okN l w := by
  unfold lkOk
  constructor
  · rintro ⟨a, b⟩
    refine ⟨a, fun x hx => (b x hx).1, fun w hw => ?_⟩
    obtain ⟨x, hx, m⟩ := (allW_mem l w).1 hw
    exact (b x hx).2 w m
  · rintro ⟨a, b, c⟩
    exact ⟨a, fun x hx => ⟨b x hx, fun w m => c w ((allW_mem l w).2 ⟨x, hx, m⟩)⟩⟩
/-- What makes locks right, chains told as such. -/
theorem lk_mk (l : List S45) (h1 : l.length ≤ 5) (h2 : ∀ x ∈ l, okL x) (h3 : ∀ x ∈ l, (x.f1).length ≤ 1048576) (h4 : ∀ w ∈ allW l, (1 ≤ w ∧ w ≤ 1000) ∧ (allW l).count w = 1 ∧ ∃ o, IsChain l w o) : lkOk l := by
  have hs : shortK l := ⟨by omega, h3⟩
  refine (lk_iff l).2 ⟨h1, h2, fun w hw => ?_⟩
  obtain ⟨a, b, c⟩ := h4 w hw
  exact ⟨a, b, (chain_ok l hs w).2 c⟩
theorem mem_set2 {α : Type} (l : List α) (i : Nat) (y x : α) (h : x ∈ l.set i y) : x = y ∨ x ∈ l := (List.mem_or_eq_of_mem_set h).symm
theorem ownK_at (l : List S45) (v : Int) (j : Nat) (hj : j < l.length) (h : waitAt l v = (j : Int)) : ownK l v = (l[j]).f0 := by
  unfold ownK
  rw [h, rdK l j hj]
theorem waitAt_on (l : List S45) (v : Int) (h : 0 ≤ waitAt l v) : ∃ j, ∃ hj : j < l.length, waitAt l v = (j : Int) ∧ v ∈ (l[j]).f1 := by
  rcases idxF_find (fun t : S45 => decide (v ∈ t.f1)) l 0 with ⟨e, g⟩ | ⟨j, hj, e, g⟩
  · unfold waitAt at h
    rw [e] at h
    omega
  · exact ⟨j, hj, by unfold waitAt; rw [e]; omega, of_decide_eq_true g⟩
theorem idxF_set {α : Type} (p : α → Bool) (y : α) : ∀ (l : List α) (i : Nat) (n : Int) (hi : i < l.length), p y = p l[i] → idxF p (l.set i y) n = idxF p l n := by
  intro l
  induction l with
  | nil => intro i n hi; exact absurd hi (by simp)
  | cons x r ih =>
    intro i n hi h
    cases i with
    | zero =>
      rw [List.set_cons_zero, idxF, idxF, h]
      rfl
    | succ i => rw [List.set_cons_succ, idxF, idxF, ih i (n + 1) (by simpa using hi) (by simpa using h)]
theorem waitAt_set (l : List S45) (i : Nat) (hi : i < l.length) (y : S45) (v : Int) (h : v ∈ y.f1 ↔ v ∈ (l[i]).f1) : waitAt (l.set i y) v = waitAt l v := idxF_set _ y l i 0 hi (decide_eq_decide.2 h)
theorem ownK_set (l : List S45) (i : Nat) (hi : i < l.length) (y : S45) (v : Int) (h : v ∈ y.f1 ↔ v ∈ (l[i]).f1) (h0 : 0 ≤ waitAt l v) : (waitAt l v = (i : Int) ∧ ownK (l.set i y) v = y.f0) ∨ (waitAt l v ≠ (i : Int) ∧ ownK (l.set i y) v = ownK l v) := by
  obtain ⟨j, hj, e, _⟩ := waitAt_on l v h0
  have e2 := waitAt_set l i hi y v h
  rw [e] at e2 ⊢
  rw [ownK_at (l.set i y) v j (by simpa using hj) e2, List.getElem_set, ownK_at l v j hj e]
  by_cases hij : i = j
  · rw [if_pos hij]
    exact .inl ⟨by rw [hij], rfl⟩
  · rw [if_neg hij]
    exact .inr ⟨by omega, rfl⟩
/-- An owner is set where nobody waits. -/
theorem own_chain (l : List S45) (i : Nat) (hi : i < l.length) (y : S45) (h1 : y.f1 = (l[i]).f1) (he : (l[i]).f1 = []) : ∀ (o : List Int) (no : Int), IsChain l no o → IsChain (l.set i y) no o := by
  intro o
  induction o with
  | nil => intro no h; exact absurd h (by simp [IsChain])
  | cons x r ih =>
    intro no h
    have hv : ∀ v, v ∈ y.f1 ↔ v ∈ (l[i]).f1 := fun v => by rw [h1]
    simp only [IsChain] at h ⊢
    rw [waitAt_set l i hi y no (hv no)]
    obtain ⟨rfl, h⟩ := h
    refine ⟨rfl, ?_⟩
    rcases h with h | ⟨h, h2⟩
    · exact .inl h
    · refine .inr ⟨h, ?_⟩
      rcases ownK_set l i hi y x (hv x) h with ⟨e, _⟩ | ⟨_, e⟩
      · obtain ⟨j, hj, e2, m⟩ := waitAt_on l x h
        rw [e2] at e
        have : j = i := by omega
        subst this
        rw [he] at m
        exact absurd m (by simp)
      · rw [e]
        exact ih _ h2
theorem lk_own (l : List S45) (h : lkOk l) (i : Nat) (hi : i < l.length) (he : (l[i]).f1 = []) (no : Int) (hn : 0 ≤ no ∧ no ≤ 1000) : lkOk (l.set i ⟨no, (l[i]).f1⟩) := by
  have hc : ∀ w, (allW (l.set i ⟨no, (l[i]).f1⟩)).count w = (allW l).count w := fun w => by have := count_set no (l[i]).f1 w l i hi; omega
  refine lk_mk _ (by rw [List.length_set]; exact h.1) (fun x hx => ?_) (fun x hx => ?_) (fun w hw => ?_)
  · rcases mem_set2 _ _ _ _ hx with rfl | hx
    · exact ⟨hn, fun _ => by rw [he]; rfl⟩
    · exact (h.2 x hx).1
  · rcases mem_set2 _ _ _ _ hx with rfl | hx
    · show ((l[i]).f1).length ≤ 1048576
      rw [he]
      simp
    · have := lk_len l h x hx
      omega
  · have hm : w ∈ allW l := List.count_pos_iff.1 (by rw [← hc]; exact List.count_pos_iff.2 hw)
    obtain ⟨_, _, h3⟩ := (lk_iff l).1 h
    obtain ⟨o, ho⟩ := lk_chain l h w
    exact ⟨(h3 w hm).1, by rw [hc]; exact (h3 w hm).2.1, o, own_chain l i hi ⟨no, (l[i]).f1⟩ rfl he o w ho⟩
theorem waitAt_no (l : List S45) (v : Int) : waitAt l v < 0 ↔ ∀ x ∈ l, v ∉ x.f1 := by
  rcases idxF_find (fun t : S45 => decide (v ∈ t.f1)) l 0 with ⟨e, g⟩ | ⟨j, hj, e, g⟩
  · refine ⟨fun _ x hx => of_decide_eq_false (g x hx), fun _ => ?_⟩
    unfold waitAt
    rw [e]
    decide
  · refine ⟨fun h => ?_, fun h => absurd (of_decide_eq_true g) (h _ (List.getElem_mem hj))⟩
    unfold waitAt at h
    rw [e] at h
    omega
theorem put_at (l : List S45) (i : Nat) (hi : i < l.length) (no : Int) (hw : waitAt l no < 0) : waitAt (l.set i ⟨(l[i]).f0, (l[i]).f1 ++ [no]⟩) no = (i : Int) := by
  have h0 : ¬ waitAt (l.set i ⟨(l[i]).f0, (l[i]).f1 ++ [no]⟩) no < 0 := by
    rw [waitAt_no]
    intro h
    exact h ⟨(l[i]).f0, (l[i]).f1 ++ [no]⟩ (List.mem_iff_getElem.2 ⟨i, by simpa using hi, by simp⟩) (by simp)
  obtain ⟨j, hj, e, m⟩ := waitAt_on _ no (Int.not_lt.1 h0)
  rw [e]
  rw [List.getElem_set] at m
  by_cases hij : i = j
  · rw [hij]
  · rw [if_neg hij] at m
    exact absurd m ((waitAt_no l no).1 hw _ (List.getElem_mem _))
/-- A number is put behind those that wait. -/
theorem put_far (l : List S45) (i : Nat) (hi : i < l.length) (no : Int) : ∀ (o : List Int) (x : Int), no ∉ o → IsChain l x o → IsChain (l.set i ⟨(l[i]).f0, (l[i]).f1 ++ [no]⟩) x o := by
  intro o
  induction o with
  | nil => intro x _ h; exact absurd h (by simp [IsChain])
  | cons y r ih =>
    intro x hn h
    simp only [IsChain] at h ⊢
    obtain ⟨rfl, h⟩ := h
    have hy : y ≠ no := fun e => hn (by rw [e]; exact List.mem_cons_self)
    have hv : y ∈ (l[i]).f1 ++ [no] ↔ y ∈ (l[i]).f1 := by
      rw [List.mem_append, List.mem_singleton]
      exact ⟨fun z => z.resolve_right hy, .inl⟩
    rw [waitAt_set l i hi ⟨(l[i]).f0, (l[i]).f1 ++ [no]⟩ y hv]
    refine ⟨rfl, ?_⟩
    rcases h with h | ⟨h, h2⟩
    · exact .inl h
    · refine .inr ⟨h, ?_⟩
      have e : ownK (l.set i ⟨(l[i]).f0, (l[i]).f1 ++ [no]⟩) y = ownK l y := by
        rcases ownK_set l i hi ⟨(l[i]).f0, (l[i]).f1 ++ [no]⟩ y hv h with ⟨e1, e2⟩ | ⟨_, e⟩
        · rw [e2, ownK_at l y i hi e1]
        · exact e
      rw [e]
      exact ih _ (fun m => hn (List.mem_cons_of_mem _ m)) h2
theorem put_chain (l : List S45) (i : Nat) (hi : i < l.length) (no : Int) (hw : waitAt l no < 0) (c : List Int) (hc : IsChain l (l[i]).f0 c) (hn : no ∉ c) : ∀ (o : List Int) (x : Int), IsChain l x o → ∃ o2, IsChain (l.set i ⟨(l[i]).f0, (l[i]).f1 ++ [no]⟩) x o2 := by
  intro o
  induction o with
  | nil => intro x h; exact absurd h (by simp [IsChain])
  | cons y r ih =>
    intro x h
    simp only [IsChain] at h
    obtain ⟨rfl, h⟩ := h
    by_cases hy : y = no
    · refine ⟨y :: c, ?_⟩
      have e := put_at l i hi no hw
      simp only [IsChain]
      rw [hy]
      refine ⟨trivial, .inr ⟨by omega, ?_⟩⟩
      rw [ownK_at _ no i (by simpa using hi) e]
      simp only [List.getElem_set_self]
      exact put_far l i hi no c _ hn hc
    · have hv : y ∈ (l[i]).f1 ++ [no] ↔ y ∈ (l[i]).f1 := by
        rw [List.mem_append, List.mem_singleton]
        exact ⟨fun z => z.resolve_right hy, .inl⟩
      have hq := waitAt_set l i hi ⟨(l[i]).f0, (l[i]).f1 ++ [no]⟩ y hv
      rcases h with ⟨_, h⟩ | ⟨h, h2⟩
      · refine ⟨[y], ?_⟩
        simp only [IsChain]
        exact ⟨trivial, .inl ⟨trivial, by omega⟩⟩
      · obtain ⟨o2, h3⟩ := ih _ h2
        refine ⟨y :: o2, ?_⟩
        have e : ownK (l.set i ⟨(l[i]).f0, (l[i]).f1 ++ [no]⟩) y = ownK l y := by
          rcases ownK_set l i hi ⟨(l[i]).f0, (l[i]).f1 ++ [no]⟩ y hv h with ⟨e1, e2⟩ | ⟨_, e⟩
          · rw [e2, ownK_at l y i hi e1]
          · exact e
        simp only [IsChain]
        rw [e]
        exact ⟨trivial, .inr ⟨by omega, h3⟩⟩
theorem waitAt_all (l : List S45) (v : Int) : waitAt l v < 0 ↔ v ∉ allW l := by
  rw [waitAt_no, allW_mem]
  exact ⟨fun h ⟨x, hx, m⟩ => h x hx m, fun h x hx m => h ⟨x, hx, m⟩⟩
theorem lk_put (l : List S45) (h : lkOk l) (i : Nat) (hi : i < l.length) (no : Int) (hn : 1 ≤ no ∧ no ≤ 1000) (hw : waitAt l no < 0) (h0 : (l[i]).f0 ≠ 0) (c : List Int) (hc : IsChain l (l[i]).f0 c) (hm : no ∉ c) : lkOk (l.set i ⟨(l[i]).f0, (l[i]).f1 ++ [no]⟩) := by
  have hct : ∀ w, (allW (l.set i ⟨(l[i]).f0, (l[i]).f1 ++ [no]⟩)).count w = (allW l).count w + [no].count w := fun w => by have := count_set (l[i]).f0 ((l[i]).f1 ++ [no]) w l i hi; rw [List.count_append] at this; omega
  have hz : (allW l).count no = 0 := List.count_eq_zero.2 ((waitAt_all l no).1 hw)
  refine lk_mk _ (by rw [List.length_set]; exact h.1) (fun x hx => ?_) (fun x hx => ?_) (fun w hw2 => ?_)
  · rcases mem_set2 _ _ _ _ hx with rfl | hx
    · exact ⟨(h.2 _ (List.getElem_mem hi)).1.1, fun z => absurd z h0⟩
    · exact (h.2 x hx).1
  · rcases mem_set2 _ _ _ _ hx with rfl | hx
    · have := lk_len l h _ (List.getElem_mem hi)
      rw [List.length_append, List.length_singleton]
      omega
    · have := lk_len l h x hx
      omega
  · obtain ⟨o, ho⟩ := lk_chain l h w
    have ho2 := put_chain l i hi no hw c hc hm o w ho
    by_cases e : w = no
    · subst e
      exact ⟨hn, by rw [hct, hz, List.count_singleton_self], ho2⟩
    · have e2 : [no].count w = 0 := List.count_eq_zero.2 (by rw [List.mem_singleton]; exact e)
      have hm2 : w ∈ allW l := List.count_pos_iff.1 (by have := List.count_pos_iff.2 hw2; rw [hct, e2] at this; omega)
      obtain ⟨_, _, h3⟩ := (lk_iff l).1 h
      exact ⟨(h3 w hm2).1, by rw [hct, e2]; exact (h3 w hm2).2.1, ho2⟩
theorem ask_ok (l : List S45) (h : lkOk l) (i no : Int) (r : List S45 × Int) (hr : AskR l i no r) : lkOk r.1 ∧ r.1.length = l.length := by
  rcases hr with ⟨z, _⟩ | ⟨_, _, rfl⟩ | ⟨_, h3, h4, j, hj, _, ⟨_, rfl⟩ | ⟨_, h0, rfl⟩ | ⟨_, h0, o, ho, ⟨_, rfl⟩ | ⟨hm, rfl⟩⟩⟩
  · exact absurd h z
  · exact ⟨h, rfl⟩
  · exact ⟨h, rfl⟩
  · refine ⟨lk_own l h j hj (List.eq_nil_of_length_eq_zero ((h.2 _ (List.getElem_mem hj)).1.2 h0)) no (by omega), by simp only [List.length_set]⟩
  · exact ⟨h, rfl⟩
  · exact ⟨lk_put l h j hj no h3 h4 h0 o ho hm, by simp only [List.length_set]⟩
theorem eqInts_loop (l : List Int) (hl : l.length ≤ maxLen) (d : Nat) : ∀ (k i : Nat), l.length - i ≤ d → d < k → laws_eqIntS.l0 k l l (i : Int) = some true := by
  unfold maxLen at hl
  induction d with
  | zero =>
    intro k i hd hk
    obtain ⟨k, rfl⟩ : ∃ m, k = m + 1 := ⟨k - 1, by omega⟩
    simp only [laws_eqIntS.l0]
    rw [if_neg (by omega)]
  | succ d ih =>
    intro k i hd hk
    obtain ⟨k, rfl⟩ : ∃ m, k = m + 1 := ⟨k - 1, by omega⟩
    simp only [laws_eqIntS.l0]
    by_cases h : i < l.length
    · rw [if_pos (by omega), if_pos (by omega), if_pos (by omega), if_pos trivial, wr _ (by omega) (by omega)]
      exact ih k (i + 1) (by omega) (by omega)
    · rw [if_neg (by omega)]
theorem eqInts_ev (l : List Int) (hl : l.length ≤ maxLen) : Ev (fun k => laws_eqIntS.f k l l) true := by
  refine Ev.of (fun k => laws_eqIntS.mono l l k) (k := l.length + 1) ?_
  unfold laws_eqIntS.f
  rw [if_pos rfl]
  exact eqInts_loop l hl l.length (l.length + 1) 0 (by omega) (by omega)
theorem eqLocks_loop (l : List S45) (hl : shortK l) : ∀ (d i : Nat), l.length - i = d → i ≤ l.length → Ev (fun k => laws_eqLockS.l0 k l l (i : Int)) true := by
  obtain ⟨hl1, hl2⟩ := hl
  intro d
  induction d with
  | zero =>
    intro i hd hi
    refine Ev.step (fun k => by simp only [laws_eqLockS.l0]; rfl) ?_
    exact evNeg (by omega) (Ev.now _)
  | succ d ih =>
    intro i hd hi
    have hi2 : i < l.length := by omega
    have e : wrap64 ((i : Int) + 1) = ((i + 1 : Nat) : Int) := by rw [wr _ (by omega) (by omega)]; omega
    refine Ev.step (fun k => by simp only [laws_eqLockS.l0]; rfl) ?_
    refine evPos (by omega) (evPos (by omega) (evPos (by omega) ?_))
    have hq : Ev (fun k => laws_eqIntS.f k (rd_T45 l (i : Int)).f1 (rd_T45 l (i : Int)).f1) true := by
      rw [rdK l i hi2]
      have := hl2 l[i] (List.getElem_mem hi2)
      exact eqInts_ev _ (by unfold maxLen; omega)
    rw [e]
    have hk : Ev (fun k => laws_eqLock.f k (rd_T45 l (i : Int)).f0 (rd_T45 l (i : Int)).f1 (rd_T45 l (i : Int)).f0 (rd_T45 l (i : Int)).f1) true := by
      unfold laws_eqLock.f
      exact evPos rfl (Ev.bind hq (evPos rfl (Ev.now _)))
    exact Ev.bind hk (evPos rfl (ih (i + 1) (by omega) (by omega)))
theorem eqLocks_ev (l : List S45) (hl : shortK l) : Ev (fun k => laws_eqLockS.f k l l) true := by
  unfold laws_eqLockS.f
  exact evPos rfl (eqLocks_loop l hl l.length 0 (by omega) (by omega))
/-- What both chains answer where there is a chain. -/
theorem chain_both (l : List S45) (hl : shortK l) (no : Int) (o : List Int) (h : IsChain l no o) : Ev (fun k => impl_chain.f k l no) (o, true) ∧ Ev (fun k => spec_l7Chain.f k l no) (o, true) := by
  obtain ⟨o2, s, h1, h2, h3, _, _⟩ := chB_ev l hl no
  have hb := (chain_ok l hl no).2 ⟨o, h⟩
  have hl1 := hl.1
  have hq := chain_len l o no h
  have h6 : Ev (fun k => impl_chain.f k l no) (o, true) := iChain_run l hl o [] no h (chain_nodup l o no h) (by simp only [List.nil_append]; omega)
  refine ⟨h6, ?_⟩
  have := (Prod.mk.inj (ev_one h1 h6)).1
  rw [hb, h3 hb, this] at h2
  exact h2
theorem iLocks_l2 (l : List S45) (hl : shortK l) (x3 : List Int) (hx : x3.length ≤ 2199023255552) : ∀ (c j : Nat), x3.length - j = c → j ≤ x3.length → ∃ b, Ev (fun k => impl_LocksOk.l2 k l x3 (x3.length : Int) (j : Int)) b ∧ (b = true ↔ (∀ w ∈ x3.drop j, chB l w = true) ∧ l.length ≤ 5) := by
  intro c
  induction c with
  | zero =>
    intro j hc hj
    refine ⟨decide ((l.length : Int) ≤ 5), ?_, ?_⟩
    · refine Ev.step (fun k => by simp only [impl_LocksOk.l2]; rfl) ?_
      exact evNeg (by omega) (Ev.now _)
    · rw [List.drop_eq_nil_of_le (by omega), decide_eq_true_eq]
      exact ⟨fun z => ⟨fun w hw => absurd hw (by simp), by omega⟩, fun z => by omega⟩
  | succ c ihc =>
    intro j hc hj
    have hj2 : j < x3.length := by omega
    have ej : Unit → wrap64 ((j : Int) + 1) = ((j + 1 : Nat) : Int) := fun _ => by rw [wr _ (by omega) (by omega)]; omega
    obtain ⟨o, s, ho, _, _⟩ := chB_ev l hl (x3[j])
    have head : ∀ r, (chB l x3[j] = true → Ev (fun k => impl_LocksOk.l2 k l x3 (x3.length : Int) ((j + 1 : Nat) : Int)) r) → (¬ chB l x3[j] = true → r = false) → Ev (fun k => impl_LocksOk.l2 k l x3 (x3.length : Int) (j : Int)) r := by
      intro r hr hf
      refine Ev.step (fun k => by simp only [impl_LocksOk.l2]; rfl) ?_
      refine evPos (by omega) (evPos (by omega) (evPos (by omega) ?_))
      rw [rd_at _ j hj2, ej ()]
      refine Ev.bind ho ?_
      by_cases h : chB l x3[j] = true
      · exact evPos h (hr h)
      · rw [hf h]
        exact evNeg h (Ev.now _)
    rw [List.drop_eq_getElem_cons hj2, List.forall_mem_cons]
    by_cases h : chB l x3[j] = true
    · obtain ⟨b, hb, hx2⟩ := ihc (j + 1) (by omega) (by omega)
      exact ⟨b, head b (fun _ => hb) (fun z => absurd h z), hx2.trans ⟨fun z => ⟨⟨h, z.1⟩, z.2⟩, fun z => ⟨z.1.2, z.2⟩⟩⟩
    · exact ⟨false, head false (fun z => absurd z h) (fun _ => rfl), ⟨fun z => absurd z (by decide), fun z => absurd z.1.1 h⟩⟩
theorem in_eq (a b c : Int) : impl_in.f a b c = some (decide (b ≤ a ∧ a ≤ c)) := by
  unfold impl_in.f
  by_cases h : a ≥ b
  · rw [if_pos h]; simp [show b ≤ a from h]
  · rw [if_neg h]; simp; omega
/-- What impl.LocksOk still asks: of the numbers met (x3), of those to come (R), of the locks to come (L). -/
def restI (l : List S45) (x3 R : List Int) (L : List S45) : Prop := (∀ x ∈ L, okL x) ∧ (∀ w ∈ R, 1 ≤ w ∧ w ≤ 1000) ∧ (x3 ++ R).Nodup ∧ (∀ w ∈ x3 ++ R, chB l w = true) ∧ l.length ≤ 5
theorem iLocks_loop (l : List S45) (hl : shortK l) : ∀ (d i : Nat) (x3 : List Int), l.length - i = d → i ≤ l.length → x3.length ≤ 1048576 * i → x3.Nodup → ∃ b, Ev (fun k => impl_LocksOk.l0 k l x3 l (l.length : Int) (i : Int)) b ∧ (b = true ↔ restI l x3 (allW (l.drop i)) (l.drop i)) := by
  have hl1 := hl.1
  intro d
  induction d with
  | zero =>
    intro i x3 hd hi hx hn
    obtain ⟨b, hb, hq⟩ := iLocks_l2 l hl x3 (by omega) x3.length 0 (by omega) (by omega)
    refine ⟨b, ?_, ?_⟩
    · refine Ev.step (fun k => by simp only [impl_LocksOk.l0]; rfl) ?_
      exact evNeg (by omega) hb
    · rw [List.drop_eq_nil_of_le (show l.length ≤ i by omega)]
      rw [List.drop_zero] at hq
      refine hq.trans ?_
      unfold restI
      rw [show allW ([] : List S45) = [] from rfl, List.append_nil]
      exact ⟨fun z => ⟨fun x hx => absurd hx (by simp), fun x hx => absurd hx (by simp), hn, z.1, z.2⟩, fun z => ⟨z.2.2.2.1, z.2.2.2.2⟩⟩
  | succ d ih =>
    intro i x3 hd hi hx hn
    have hi2 : i < l.length := by omega
    have hf := hl.2 l[i] (List.getElem_mem hi2)
    have e : Unit → wrap64 ((i : Int) + 1) = ((i + 1 : Nat) : Int) := fun _ => by rw [wr _ (by omega) (by omega)]; omega
    have inner : ∀ (c j : Nat) (x3 : List Int), (l[i]).f1.length - j = c → j ≤ (l[i]).f1.length → x3.length ≤ 1048576 * i + j → x3.Nodup → ∃ b, Ev (fun k => impl_LocksOk.l1 k l x3 l (l.length : Int) (i : Int) (l[i]).f1 ((l[i]).f1.length : Int) (j : Int)) b ∧ (b = true ↔ restI l x3 ((l[i]).f1.drop j ++ allW (l.drop (i + 1))) (l.drop (i + 1))) := by
      intro c
      induction c with
      | zero =>
        intro j x3 hc hj hx hn
        obtain ⟨b, hb, hq⟩ := ih (i + 1) x3 (by omega) (by omega) (by omega) hn
        refine ⟨b, ?_, by rw [List.drop_eq_nil_of_le (show (l[i]).f1.length ≤ j by omega), List.nil_append]; exact hq⟩
        refine Ev.step (fun k => by simp only [impl_LocksOk.l1]; rfl) ?_
        refine evNeg (by omega) ?_
        rw [e ()]
        exact hb
      | succ c ihc =>
        intro j x3 hc hj hx hn
        have hj2 : j < (l[i]).f1.length := by omega
        have ej : Unit → wrap64 ((j : Int) + 1) = ((j + 1 : Nat) : Int) := fun _ => by rw [wr _ (by omega) (by omega)]; omega
        have head : ∀ r, ((1 ≤ (l[i]).f1[j] ∧ (l[i]).f1[j] ≤ 1000) → (l[i]).f1[j] ∉ x3 → Ev (fun k => impl_LocksOk.l1 k l (x3 ++ [(l[i]).f1[j]]) l (l.length : Int) (i : Int) (l[i]).f1 ((l[i]).f1.length : Int) ((j + 1 : Nat) : Int)) r) → (¬ ((1 ≤ (l[i]).f1[j] ∧ (l[i]).f1[j] ≤ 1000) ∧ (l[i]).f1[j] ∉ x3) → r = false) → Ev (fun k => impl_LocksOk.l1 k l x3 l (l.length : Int) (i : Int) (l[i]).f1 ((l[i]).f1.length : Int) (j : Int)) r := by
          intro r hr hf2
          refine Ev.step (fun k => by simp only [impl_LocksOk.l1]; rfl) ?_
          refine evPos (by omega) (evPos (by omega) (evPos (by omega) ?_))
          rw [rd_at _ j hj2, ej ()]
          simp only [impl_isNo.f, in_eq, Option.bind_some]
          by_cases h1 : 1 ≤ (l[i]).f1[j] ∧ (l[i]).f1[j] ≤ 1000
          · refine evPos (decide_eq_true h1) (Ev.bind (cont_ev x3 (by omega) _) ?_)
            by_cases h2 : (l[i]).f1[j] ∈ x3
            · rw [hf2 fun z => z.2 h2]
              exact evPos (decide_eq_true h2) (Ev.now _)
            · exact evNeg (by rw [decide_eq_true_eq]; exact h2) (evPos (by omega) (hr h1 h2))
          · rw [hf2 fun z => h1 z.1]
            exact evNeg (by rw [decide_eq_true_eq]; exact h1) (Ev.now _)
        rw [List.drop_eq_getElem_cons hj2, List.cons_append]
        by_cases h : (1 ≤ (l[i]).f1[j] ∧ (l[i]).f1[j] ≤ 1000) ∧ (l[i]).f1[j] ∉ x3
        · obtain ⟨b, hb, hq⟩ := ihc (j + 1) (x3 ++ [(l[i]).f1[j]]) (by omega) (by omega) (by rw [List.length_append, List.length_singleton]; omega) (by
            rw [List.nodup_append]
            exact ⟨hn, by simp, fun a ha b hb hab => h.2 (by rw [List.mem_singleton] at hb; rw [← hb, ← hab]; exact ha)⟩)
          refine ⟨b, head b (fun _ _ => hb) (fun z => absurd h z), hq.trans ?_⟩
          unfold restI
          rw [List.forall_mem_cons, List.append_assoc, List.singleton_append]
          exact ⟨fun z => ⟨z.1, ⟨h.1, z.2.1⟩, z.2.2⟩, fun z => ⟨z.1, z.2.1.2, z.2.2⟩⟩
        · refine ⟨false, head false (fun x y => absurd ⟨x, y⟩ h) (fun _ => rfl), ⟨fun z => absurd z (by decide), fun z => ?_⟩⟩
          unfold restI at z
          rw [List.forall_mem_cons, List.nodup_append] at z
          exact absurd ⟨z.2.1.1, fun m => z.2.2.1.2.2 _ m _ List.mem_cons_self rfl⟩ h
    obtain ⟨b, hb, hq⟩ := inner (l[i]).f1.length 0 x3 (by omega) (by omega) (by omega) hn
    rw [List.drop_zero] at hq
    have good : Ev (fun k => impl_LocksOk.j1 k l x3 l (l.length : Int) (i : Int) false (l[i]).f0 (l[i]).f1) b := by
      refine Ev.step (fun k => by simp only [impl_LocksOk.j1]; rfl) ?_
      exact evNeg (by decide) hb
    have bad : Ev (fun k => impl_LocksOk.j1 k l x3 l (l.length : Int) (i : Int) true (l[i]).f0 (l[i]).f1) false := by
      refine Ev.step (fun k => by simp only [impl_LocksOk.j1]; rfl) ?_
      exact evPos trivial (Ev.now _)
    have top : ∀ r (c : Bool), Ev (fun k => impl_LocksOk.j1 k l x3 l (l.length : Int) (i : Int) c (l[i]).f0 (l[i]).f1) r → (impl_in.f (l[i]).f0 0 1000 = some true ∧ ((l[i]).f0 = 0 ∧ c = decide (((l[i]).f1.length : Int) > 0) ∨ (l[i]).f0 ≠ 0 ∧ c = false) ∨ impl_in.f (l[i]).f0 0 1000 = some false ∧ c = true) → Ev (fun k => impl_LocksOk.l0 k l x3 l (l.length : Int) (i : Int)) r := by
      intro r c hr hc
      refine Ev.step (fun k => by simp only [impl_LocksOk.l0]; rfl) ?_
      refine evPos (by omega) (evPos (by omega) (evPos (by omega) ?_))
      rw [rdK l i hi2]
      rcases hc with ⟨q, hc⟩ | ⟨q, hc⟩
      · rw [q]
        simp only [Option.bind_some]
        refine evPos trivial ?_
        rcases hc with ⟨z, hc⟩ | ⟨z, hc⟩
        · refine evPos z ?_
          rw [← hc]
          exact hr
        · refine evNeg z ?_
          rw [← hc]
          exact hr
      · rw [q]
        simp only [Option.bind_some]
        refine evNeg (by decide) ?_
        rw [← hc]
        exact hr
    rw [List.drop_eq_getElem_cons hi2, allW_cons]
    by_cases h : okL l[i]
    · refine ⟨b, top b false good (.inl ⟨by rw [in_eq]; exact congrArg some (decide_eq_true h.1), ?_⟩), hq.trans ?_⟩
      · by_cases h0 : (l[i]).f0 = 0
        · have := h.2 h0
          exact .inl ⟨h0, (decide_eq_false (by omega)).symm⟩
        · exact .inr ⟨h0, rfl⟩
      · unfold restI
        rw [List.forall_mem_cons]
        exact ⟨fun z => ⟨⟨h, z.1⟩, z.2⟩, fun z => ⟨z.1.2, z.2⟩⟩
    · refine ⟨false, top false true bad ?_, ⟨fun z => absurd z (by decide), fun z => absurd (z.1 _ List.mem_cons_self) h⟩⟩
      by_cases h1 : 0 ≤ (l[i]).f0 ∧ (l[i]).f0 ≤ 1000
      · by_cases h0 : (l[i]).f0 = 0
        · refine .inl ⟨by rw [in_eq]; exact congrArg some (decide_eq_true h1), .inl ⟨h0, (decide_eq_true ?_).symm⟩⟩
          exact Classical.byContradiction fun z => h ⟨h1, fun _ => by omega⟩
        · exact absurd ⟨h1, fun z => absurd z h0⟩ h
      · exact .inr ⟨by rw [in_eq]; exact congrArg some (decide_eq_false h1), rfl⟩
theorem sin_eq (a b c : Int) : spec_l1In.f a b c = some (decide (b ≤ a ∧ a ≤ c)) := by
  unfold spec_l1In.f
  by_cases h : a ≥ b
  · rw [if_pos h]; simp [show b ≤ a from h]
  · rw [if_neg h]; simp; omega
theorem cnt1 (n : Int) (a : Nat) : n + ((a + 1 : Nat) : Int) = n + 1 + (a : Int) := by omega
theorem cnt2 (n : Int) (a b : Nat) : n + ((a + b : Nat) : Int) = n + (a : Int) + (b : Int) := by omega
theorem waits_loop (l : List S45) (hl : shortK l) (v : Int) : ∀ (d i : Nat) (n : Int), l.length - i = d → i ≤ l.length → 0 ≤ n → n ≤ 1048576 * (i : Int) → Ev (fun k => spec_l7Waits.l0 k l v n (i : Int)) (n + ((allW (l.drop i)).count v : Int)) := by
  have hl1 := hl.1
  intro d
  induction d with
  | zero =>
    intro i n hd hi h0 h1
    refine Ev.step (fun k => by simp only [spec_l7Waits.l0]; rfl) ?_
    refine evNeg (by omega) ?_
    rw [List.drop_eq_nil_of_le (by omega)]
    exact evEq _ (fun _ => rfl) (by simp [allW])
  | succ d ih =>
    intro i n hd hi h0 h1
    have hi2 : i < l.length := by omega
    have hf := hl.2 l[i] (List.getElem_mem hi2)
    have e : Unit → wrap64 ((i : Int) + 1) = ((i + 1 : Nat) : Int) := fun _ => by rw [wr _ (by omega) (by omega)]; omega
    have inner : ∀ (c j : Nat) (n : Int), (l[i]).f1.length - j = c → j ≤ (l[i]).f1.length → 0 ≤ n → n ≤ 1048576 * (i : Int) + (j : Int) → Ev (fun k => spec_l7Waits.l1 k l v n (i : Int) (j : Int)) (n + ((((l[i]).f1.drop j).count v : Nat) : Int) + ((allW (l.drop (i + 1))).count v : Int)) := by
      intro c
      induction c with
      | zero =>
        intro j n hc hj g0 g1
        refine Ev.step (fun k => by simp only [spec_l7Waits.l1]; rfl) ?_
        refine evPos (by omega) (evPos (by omega) ?_)
        rw [rdK l i hi2, e ()]
        refine evNeg (by omega) ?_
        rw [List.drop_eq_nil_of_le (show (l[i]).f1.length ≤ j by omega), List.count_nil]
        have := ih (i + 1) n (by omega) (by omega) g0 (by omega)
        simpa using this
      | succ c ihc =>
        intro j n hc hj g0 g1
        have hj2 : j < (l[i]).f1.length := by omega
        have ej : Unit → wrap64 ((j : Int) + 1) = ((j + 1 : Nat) : Int) := fun _ => by rw [wr _ (by omega) (by omega)]; omega
        refine Ev.step (fun k => by simp only [spec_l7Waits.l1]; rfl) ?_
        refine evPos (by omega) (evPos (by omega) ?_)
        rw [rdK l i hi2]
        refine evPos (by omega) (evPos (by omega) ?_)
        rw [rd_at _ j hj2, ej (), wr (n + 1) (by omega) (by omega), List.drop_eq_getElem_cons hj2, List.count_cons]
        by_cases h : (l[i]).f1[j] = v
        · refine evPos h ?_
          have := ihc (j + 1) (n + 1) (by omega) (by omega) (by omega) (by omega)
          rw [if_pos (by simp [h])]
          rw [cnt1]
          exact this
        · refine evNeg h ?_
          have := ihc (j + 1) n (by omega) (by omega) (by omega) (by omega)
          rw [if_neg (by simp [h])]
          exact this
    refine Ev.step (fun k => by simp only [spec_l7Waits.l0]; rfl) ?_
    refine evPos (by omega) ?_
    have := inner (l[i]).f1.length 0 n (by omega) (by omega) h0 (by omega)
    rw [List.drop_eq_getElem_cons hi2, allW_cons, List.count_append]
    rw [List.drop_zero] at this
    rw [cnt2]
    exact this
theorem waits_ev (l : List S45) (hl : shortK l) (v : Int) : Ev (fun k => spec_l7Waits.f k l v) ((allW l).count v : Int) := by
  have := waits_loop l hl v l.length 0 0 (by omega) (by omega) (by omega) (by omega)
  rw [List.drop_zero, Int.zero_add] at this
  exact this
theorem sLocks_loop (l : List S45) (hl : shortK l) : ∀ (d i : Nat), l.length - i = d → i ≤ l.length → ∃ b, Ev (fun k => spec_LocksOk.l0 k l (i : Int)) b ∧ (b = true ↔ ∀ x ∈ l.drop i, okL x ∧ ∀ w ∈ x.f1, okN l w) := by
  have hl1 := hl.1
  intro d
  induction d with
  | zero =>
    intro i hd hi
    refine ⟨true, ?_, by rw [List.drop_eq_nil_of_le (by omega)]; simp⟩
    refine Ev.step (fun k => by simp only [spec_LocksOk.l0]; rfl) ?_
    exact evNeg (by omega) (Ev.now _)
  | succ d ih =>
    intro i hd hi
    have hi2 : i < l.length := by omega
    have hf := hl.2 l[i] (List.getElem_mem hi2)
    have e : Unit → wrap64 ((i : Int) + 1) = ((i + 1 : Nat) : Int) := fun _ => by rw [wr _ (by omega) (by omega)]; omega
    have inner : ∀ (c j : Nat), (l[i]).f1.length - j = c → j ≤ (l[i]).f1.length → ∃ b, Ev (fun k => spec_LocksOk.l1 k l (i : Int) (j : Int)) b ∧ (b = true ↔ (∀ w ∈ (l[i]).f1.drop j, okN l w) ∧ ∀ x ∈ l.drop (i + 1), okL x ∧ ∀ w ∈ x.f1, okN l w) := by
      intro c
      induction c with
      | zero =>
        intro j hc hj
        obtain ⟨b, hb, hi3⟩ := ih (i + 1) (by omega) (by omega)
        refine ⟨b, ?_, by rw [List.drop_eq_nil_of_le (show (l[i]).f1.length ≤ j by omega)]; simpa using hi3⟩
        refine Ev.step (fun k => by simp only [spec_LocksOk.l1]; rfl) ?_
        refine evPos (by omega) (evPos (by omega) ?_)
        rw [rdK l i hi2, e ()]
        exact evNeg (by omega) hb
      | succ c ihc =>
        intro j hc hj
        have hj2 : j < (l[i]).f1.length := by omega
        have ej : Unit → wrap64 ((j : Int) + 1) = ((j + 1 : Nat) : Int) := fun _ => by rw [wr _ (by omega) (by omega)]; omega
        obtain ⟨o, s, _, hs, _⟩ := chB_ev l hl ((l[i]).f1[j])
        have head : ∀ r, (okN l (l[i]).f1[j] → Ev (fun k => spec_LocksOk.l1 k l (i : Int) ((j + 1 : Nat) : Int)) r) → (¬ okN l (l[i]).f1[j] → r = false) → Ev (fun k => spec_LocksOk.l1 k l (i : Int) (j : Int)) r := by
          intro r hr hf2
          refine Ev.step (fun k => by simp only [spec_LocksOk.l1]; rfl) ?_
          refine evPos (by omega) (evPos (by omega) ?_)
          rw [rdK l i hi2]
          refine evPos (by omega) (evPos (by omega) ?_)
          rw [rd_at _ j hj2, ej ()]
          refine Ev.bind hs ?_
          simp only [sin_eq, Option.bind_some]
          by_cases h1 : 1 ≤ (l[i]).f1[j] ∧ (l[i]).f1[j] ≤ 1000
          · refine evPos (decide_eq_true h1) (Ev.bind (waits_ev l hl _) ?_)
            by_cases h2 : (allW l).count (l[i]).f1[j] = 1
            · refine evPos (by omega) ?_
              by_cases h3 : chB l (l[i]).f1[j] = true
              · exact evPos h3 (hr ⟨h1, h2, h3⟩)
              · rw [hf2 fun z => h3 z.2.2]
                exact evNeg h3 (Ev.now _)
            · rw [hf2 fun z => h2 z.2.1]
              exact evNeg (by omega) (Ev.now _)
          · rw [hf2 fun z => h1 z.1]
            exact evNeg (by rw [decide_eq_true_eq]; exact h1) (Ev.now _)
        by_cases h : okN l (l[i]).f1[j]
        · obtain ⟨b, hb, hx⟩ := ihc (j + 1) (by omega) (by omega)
          refine ⟨b, head b (fun _ => hb) (fun z => absurd h z), hx.trans ?_⟩
          rw [List.drop_eq_getElem_cons hj2, List.forall_mem_cons]
          exact ⟨fun z => ⟨⟨h, z.1⟩, z.2⟩, fun z => ⟨z.1.2, z.2⟩⟩
        · refine ⟨false, head false (fun z => absurd z h) (fun _ => rfl), ?_⟩
          rw [List.drop_eq_getElem_cons hj2, List.forall_mem_cons]
          exact ⟨fun z => absurd z (by decide), fun z => absurd z.1.1 h⟩
    rw [List.drop_eq_getElem_cons hi2, List.forall_mem_cons]
    obtain ⟨b, hb, hx⟩ := inner (l[i]).f1.length 0 (by omega) (by omega)
    have bad : ¬ okL l[i] → Ev (fun k => spec_LocksOk.j1 k l (i : Int) true) false := by
      intro _
      refine Ev.step (fun k => by simp only [spec_LocksOk.j1]; rfl) ?_
      exact evPos trivial (Ev.now _)
    have good : Ev (fun k => spec_LocksOk.j1 k l (i : Int) false) b := by
      refine Ev.step (fun k => by simp only [spec_LocksOk.j1]; rfl) ?_
      exact evNeg (by decide) hb
    have top : ∀ r (c : Bool), Ev (fun k => spec_LocksOk.j1 k l (i : Int) c) r → (spec_l1In.f (l[i]).f0 0 1000 = some true ∧ ((l[i]).f0 = 0 ∧ c = decide (((l[i]).f1.length : Int) > 0) ∨ (l[i]).f0 ≠ 0 ∧ c = false) ∨ spec_l1In.f (l[i]).f0 0 1000 = some false ∧ c = true) → Ev (fun k => spec_LocksOk.l0 k l (i : Int)) r := by
      intro r c hr hc
      refine Ev.step (fun k => by simp only [spec_LocksOk.l0]; rfl) ?_
      refine evPos (by omega) (evPos (by omega) ?_)
      rw [rdK l i hi2]
      rcases hc with ⟨q, hc⟩ | ⟨q, hc⟩
      · rw [q]
        simp only [Option.bind_some]
        refine evPos trivial ?_
        rcases hc with ⟨z, hc⟩ | ⟨z, hc⟩
        · refine evPos z ?_
          rw [← hc]
          exact hr
        · refine evNeg z ?_
          rw [← hc]
          exact hr
      · rw [q]
        simp only [Option.bind_some]
        refine evNeg (by decide) ?_
        rw [← hc]
        exact hr
    rw [List.drop_zero] at hx
    by_cases h : okL l[i]
    · refine ⟨b, top b false good (.inl ⟨by rw [sin_eq]; exact congrArg some (decide_eq_true h.1), ?_⟩), hx.trans ⟨fun z => ⟨⟨h, z.1⟩, z.2⟩, fun z => ⟨z.1.2, z.2⟩⟩⟩
      by_cases h0 : (l[i]).f0 = 0
      · have := h.2 h0
        exact .inl ⟨h0, (decide_eq_false (by omega)).symm⟩
      · exact .inr ⟨h0, rfl⟩
    · refine ⟨false, top false true (bad h) ?_, ⟨fun z => absurd z (by decide), fun z => absurd z.1.1 h⟩⟩
      by_cases h1 : 0 ≤ (l[i]).f0 ∧ (l[i]).f0 ≤ 1000
      · by_cases h0 : (l[i]).f0 = 0
        · refine .inl ⟨by rw [sin_eq]; exact congrArg some (decide_eq_true h1), .inl ⟨h0, (decide_eq_true ?_).symm⟩⟩
          exact Classical.byContradiction fun z => h ⟨h1, fun _ => by omega⟩
        · exact absurd ⟨h1, fun z => absurd z h0⟩ h
      · exact .inr ⟨by rw [sin_eq]; exact congrArg some (decide_eq_false h1), rfl⟩
theorem sLocks_ev (l : List S45) (hl : shortK l) : ∃ b, Ev (fun k => spec_LocksOk.f k l) b ∧ (b = true ↔ l.length ≤ 5 ∧ ∀ x ∈ l, okL x ∧ ∀ w ∈ x.f1, okN l w) := by
  by_cases h : (l.length : Int) > 5
  · refine ⟨false, ?_, ⟨fun z => absurd z (by decide), fun z => absurd z.1 (by omega)⟩⟩
    unfold spec_LocksOk.f
    exact evPos h (Ev.now _)
  · obtain ⟨b, hb, hx⟩ := sLocks_loop l hl l.length 0 (by omega) (by omega)
    refine ⟨b, ?_, ?_⟩
    · unfold spec_LocksOk.f
      exact evNeg h hb
    · rw [List.drop_zero] at hx
      exact hx.trans ⟨fun z => ⟨by omega, z⟩, fun z => z.2⟩
theorem locks_ev (l : List S45) (hl : shortK l) : ∃ b, Ev (fun k => spec_LocksOk.f k l) b ∧ Ev (fun k => impl_LocksOk.f k l) b ∧ (b = true ↔ l.length ≤ 5 ∧ ∀ x ∈ l, okL x ∧ ∀ w ∈ x.f1, okN l w) := by
  obtain ⟨b, hb, hq⟩ := sLocks_ev l hl
  obtain ⟨c, hc, hr⟩ := iLocks_loop l hl l.length 0 [] (by omega) (by omega) (by simp) (by simp)
  have hc2 : Ev (fun k => impl_LocksOk.f k l) c := hc
  rw [List.drop_zero] at hr
  have hw : ∀ w, w ∈ allW l ↔ ∃ x ∈ l, w ∈ x.f1 := fun w => List.mem_flatMap
  have : b = c := by
    refine Bool.eq_iff_iff.2 (hq.trans (Iff.trans ?_ hr.symm))
    unfold restI okN
    rw [List.nil_append, nodup_count]
    constructor
    · rintro ⟨h5, h⟩
      refine ⟨fun x hx => (h x hx).1, fun w hw2 => ?_, fun w hw2 => ?_, fun w hw2 => ?_, h5⟩
      · obtain ⟨x, hx, m⟩ := (hw w).1 hw2
        exact ((h x hx).2 w m).1
      · obtain ⟨x, hx, m⟩ := (hw w).1 hw2
        exact ((h x hx).2 w m).2.1
      · obtain ⟨x, hx, m⟩ := (hw w).1 hw2
        exact ((h x hx).2 w m).2.2
    · rintro ⟨h1, h2, h3, h4, h5⟩
      refine ⟨h5, fun x hx => ⟨h1 x hx, fun w m => ?_⟩⟩
      have hm := (hw w).2 ⟨x, hx, m⟩
      exact ⟨h2 w hm, h3 w hm, h4 w hm⟩
  rw [← this] at hc2
  exact ⟨b, hb, hc2, hq⟩
theorem iLk_ev (l : List S45) (hl : shortK l) : (lkOk l → Ev (fun k => impl_LocksOk.f k l) true) ∧ (¬ lkOk l → Ev (fun k => impl_LocksOk.f k l) false) := by
  obtain ⟨b, _, hb, hq⟩ := locks_ev l hl
  constructor
  · intro h
    rw [hq.2 h] at hb
    exact hb
  · intro h
    rw [Bool.eq_false_iff.2 fun z => h (hq.1 z)] at hb
    exact hb
theorem iChainOf_ev (l : List S45) (h : lkOk l) (no : Int) (o : List Int) (ho : IsChain l no o) : Ev (fun k => impl_ChainOf.f k l no) o := by
  unfold impl_ChainOf.f
  exact Ev.bind ((iLk_ev l (lk_short l h)).1 h) (evPos rfl (Ev.bind (chain_both l (lk_short l h) no o ho).1 (Ev.now _)))
theorem iClone_loop (l : List S45) (hl : shortK l) : ∀ (d i : Nat), l.length - i = d → i ≤ l.length → Ev (fun k => impl_cloneLocks.l0 k (l.take i) l (l.length : Int) (i : Int)) l := by
  have hl1 := hl.1
  intro d
  induction d with
  | zero =>
    intro i hd hi
    refine Ev.step (fun k => by simp only [impl_cloneLocks.l0]; rfl) ?_
    refine evNeg (by omega) ?_
    rw [List.take_of_length_le (by omega)]
    exact Ev.now _
  | succ d ih =>
    intro i hd hi
    have hi2 : i < l.length := by omega
    have hf := hl.2 l[i] (List.getElem_mem hi2)
    have e : wrap64 ((i : Int) + 1) = ((i + 1 : Nat) : Int) := by rw [wr _ (by omega) (by omega)]; omega
    have ec : slices_Clone_int_int.f (l[i]).f1 = some (l[i]).f1 := by
      unfold slices_Clone_int_int.f
      exact if_pos (by omega)
    refine Ev.step (fun k => by simp only [impl_cloneLocks.l0]; rfl) ?_
    refine evPos (by omega) (evPos (by omega) (evPos (by omega) ?_))
    rw [rdK l i hi2, e, ec]
    simp only [Option.bind_some]
    refine evPos (by rw [List.length_take]; omega) ?_
    have := ih (i + 1) (by omega) (by omega)
    rw [List.take_succ_eq_append_getElem hi2] at this
    exact this
theorem iClone_ev (l : List S45) (hl : shortK l) : Ev (fun k => impl_cloneLocks.f k l) l := iClone_loop l hl l.length 0 (by omega) (by omega)
theorem set_toNat {α : Type} (l : List α) (j : Nat) (y : α) : l.set ((j : Int)).toNat y = l.set j y := by rw [Int.toNat_natCast]
theorem iAsk_ev (l : List S45) (hl : shortK l) (i no : Int) (r : List S45 × Int) (hr : AskR l i no r) : Ev (fun k => impl_LockAsk.f k l i no) r := by
  have hl1 := hl.1
  unfold impl_LockAsk.f
  have hk : lkOk l → Ev (fun k => impl_LocksOk.f k l) true := (iLk_ev l hl).1
  have e1 : wrap64 ((l.length : Int) - 1) = (l.length : Int) - 1 := wr _ (by omega) (by omega)
  have bad : Ev (fun k => impl_LockAsk.j0 k l i no l true) (l, 2) := by
    refine Ev.step (fun k => by simp only [impl_LockAsk.j0]; rfl) ?_
    exact evPos trivial (Ev.now _)
  simp only [in_eq, impl_isNo.f, impl_WaitAt.f, Option.bind_some, decide_eq_true_eq]
  rcases hr with ⟨z, rfl⟩ | ⟨h, z, rfl⟩ | ⟨h, h3, h4, j, hj, rfl, z⟩
  · exact Ev.bind ((iLk_ev l hl).2 z) (evNeg (by decide) (Ev.now _))
  · refine Ev.bind (hk h) (evPos rfl (Ev.bind (iClone_ev l hl) ?_))
    rw [e1]
    by_cases g1 : 0 ≤ i ∧ i ≤ (l.length : Int) - 1
    · refine evPos g1 ?_
      by_cases g2 : 1 ≤ no ∧ no ≤ 1000
      · refine evPos g2 ?_
        have g3 : 0 ≤ waitAt l no := by
          rcases z with z | z | z
          · exact absurd ⟨g1.1, by omega⟩ z
          · exact absurd g2 z
          · exact z
        rw [decide_eq_true (show idxF (fun t : S45 => decide (no ∈ t.f1)) l 0 ≥ 0 from g3)]
        exact bad
      · exact evNeg g2 bad
    · exact evNeg g1 bad
  · refine Ev.bind (hk h) (evPos rfl (Ev.bind (iClone_ev l hl) ?_))
    rw [e1]
    refine evPos (by omega) (evPos h3 ?_)
    rw [decide_eq_false (show ¬ idxF (fun t : S45 => decide (no ∈ t.f1)) l 0 ≥ 0 from Int.not_le.2 h4)]
    refine Ev.step (fun k => by simp only [impl_LockAsk.j0]; rfl) ?_
    refine evNeg (by decide) (evPos (by omega) (evPos (by omega) ?_))
    rw [rdK l j hj]
    rcases z with ⟨h5, rfl⟩ | ⟨h5, h6, rfl⟩ | ⟨h5, h6, o, ho, z⟩
    · exact evPos h5 (Ev.now _)
    · refine evNeg h5 (evPos h6 (evPos (by omega) ?_))
      rw [set_toNat]
      exact Ev.now _
    · refine evNeg h5 (evNeg h6 (Ev.bind (iChainOf_ev l h _ o ho) ?_))
      have hq := chain_len l o _ ho
      refine Ev.bind (cont_ev o (by omega) no) ?_
      rcases z with ⟨h7, rfl⟩ | ⟨h7, rfl⟩
      · exact evPos (decide_eq_true h7) (Ev.now _)
      · have := lk_len l h _ (List.getElem_mem hj)
        refine evNeg (by rw [decide_eq_true_eq]; exact h7) (evPos (by omega) (evPos (by omega) ?_))
        rw [set_toNat]
        exact Ev.now _
theorem intMarks_loop : ∀ (d i : Nat) (l : List Int) (x : Int), l.length ≤ 1048577000 → l.length - i = d → i ≤ l.length → 0 ≤ x → x + (d : Int) ≤ 4611686018427380000 → ∃ r : Int × List Int, Ev (fun k => laws_markIntS.l0 k l x (i : Int)) r ∧ Ev (fun k => laws_heldIntS.l0 k r.2 x (i : Int)) r.1 ∧ r.1 = x + (d : Int) ∧ r.2.length = l.length ∧ ∀ j, j < i → r.2[j]? = l[j]? := by
  intro d
  induction d with
  | zero =>
    intro i l x hl hd hi h0 h1
    refine ⟨(x, l), ?_, ?_, by simp, rfl, fun _ _ => rfl⟩
    · refine Ev.step (fun k => by simp only [laws_markIntS.l0]; rfl) ?_
      exact evNeg (by omega) (Ev.now _)
    · refine Ev.step (fun k => by simp only [laws_heldIntS.l0]; rfl) ?_
      exact evNeg (by omega) (Ev.now _)
  | succ d ih =>
    intro i l x hl hd hi h0 h1
    have hi2 : i < l.length := by omega
    have e : wrap64 ((i : Int) + 1) = ((i + 1 : Nat) : Int) := by rw [wr _ (by omega) (by omega)]; omega
    have ex : wrap64 (x + 1) = x + 1 := wr _ (by omega) (by omega)
    obtain ⟨r, h2, h3, h4, h5, h6⟩ := ih (i + 1) (l.set i x) (x + 1) (by rw [List.length_set]; exact hl) (by rw [List.length_set]; omega) (by rw [List.length_set]; omega) (by omega) (by omega)
    rw [List.length_set] at h5
    have hr : i < r.2.length := by omega
    have hv : r.2[i] = x := by
      have := h6 i (by omega)
      rw [List.getElem?_set_self hi2, List.getElem?_eq_getElem hr] at this
      exact Option.some.inj this
    refine ⟨r, ?_, ?_, by omega, h5, ?_⟩
    · refine Ev.step (fun k => by simp only [laws_markIntS.l0]; rfl) ?_
      refine evPos (by omega) (evPos (by omega) ?_)
      rw [e, ex, Int.toNat_natCast]
      exact h2
    · refine Ev.step (fun k => by simp only [laws_heldIntS.l0]; rfl) ?_
      refine evPos (by omega) (evPos (by omega) ?_)
      rw [e, ex, rd_at r.2 i hr]
      exact evPos hv h3
    · intro j hj
      rw [h6 j (by omega), List.getElem?_set_ne (by omega)]
theorem intMarks_ev (l : List Int) (hl : l.length ≤ 1048577000) (x : Int) (h0 : 0 ≤ x) (h1 : x ≤ 4611686017000000000) : ∃ r : Int × List Int, Ev (fun k => laws_markIntS.f k l x) r ∧ Ev (fun k => laws_heldIntS.f k r.2 x) r.1 ∧ r.1 = x + (l.length : Int) ∧ r.2.length = l.length := by
  obtain ⟨r, h2, h3, h4, h5, _⟩ := intMarks_loop l.length 0 l x hl (by omega) (by omega) h0 (by omega)
  exact ⟨r, h2, h3, h4, h5⟩
theorem lockMarks_loop : ∀ (d i : Nat) (l : List S45) (x : Int), shortK l → l.length - i = d → i ≤ l.length → 0 ≤ x → x + 1048577 * (d : Int) ≤ 4611686016000000000 → ∃ r : Int × List S45, Ev (fun k => laws_markLockS.l0 k l x (i : Int)) r ∧ Ev (fun k => laws_heldLockS.l0 k r.2 x (i : Int)) r.1 ∧ 0 ≤ r.1 ∧ r.2.length = l.length ∧ ∀ j, j < i → r.2[j]? = l[j]? := by
  intro d
  induction d with
  | zero =>
    intro i l x hl hd hi h0 h1
    have hl1 := hl.1
    refine ⟨(x, l), ?_, ?_, h0, rfl, fun _ _ => rfl⟩
    · refine Ev.step (fun k => by simp only [laws_markLockS.l0]; rfl) ?_
      exact evNeg (by omega) (Ev.now _)
    · refine Ev.step (fun k => by simp only [laws_heldLockS.l0]; rfl) ?_
      exact evNeg (by omega) (Ev.now _)
  | succ d ih =>
    intro i l x hl hd hi h0 h1
    have hl1 := hl.1
    have hi2 : i < l.length := by omega
    have hf := hl.2 _ (List.getElem_mem hi2)
    have e : wrap64 ((i : Int) + 1) = ((i + 1 : Nat) : Int) := by rw [wr _ (by omega) (by omega)]; omega
    have ex : wrap64 (x + 1) = x + 1 := wr _ (by omega) (by omega)
    obtain ⟨m, m1, m2, m3, m4⟩ := intMarks_ev (l[i]).f1 (by omega) (x + 1) (by omega) (by omega)
    have hs : shortK (l.set i ⟨x, m.2⟩) := by
      refine ⟨by rw [List.length_set]; exact hl1, fun y hy => ?_⟩
      rcases List.mem_or_eq_of_mem_set hy with hy | hy
      · exact hl.2 y hy
      · rw [hy]
        show m.2.length ≤ 1048576
        omega
    obtain ⟨r, h2, h3, h4, h5, h6⟩ := ih (i + 1) (l.set i ⟨x, m.2⟩) m.1 hs (by rw [List.length_set]; omega) (by rw [List.length_set]; omega) (by omega) (by omega)
    rw [List.length_set] at h5
    have hr : i < r.2.length := by omega
    have hv : r.2[i] = ⟨x, m.2⟩ := by
      have := h6 i (by omega)
      rw [List.getElem?_set_self hi2, List.getElem?_eq_getElem hr] at this
      exact Option.some.inj this
    refine ⟨r, ?_, ?_, h4, h5, ?_⟩
    · refine Ev.step (fun k => by simp only [laws_markLockS.l0]; rfl) ?_
      refine evPos (by omega) (evPos (by omega) ?_)
      rw [e, ex, Int.toNat_natCast, rdK l i hi2]
      exact Ev.bind m1 h2
    · refine Ev.step (fun k => by simp only [laws_heldLockS.l0]; rfl) ?_
      refine evPos (by omega) (evPos (by omega) ?_)
      rw [e, ex, rdK r.2 i hr, hv]
      exact evPos rfl (Ev.bind m2 (evNeg (by omega) h3))
    · intro j hj
      rw [h6 j (by omega), List.getElem?_set_ne (by omega)]
/-- Only that the marks come to an end. -/
theorem lockMark_only (l : List S45) (hl : shortK l) : ∃ r : Int × List S45, Ev (fun k => laws_markLockS.f k l 1) r ∧ 0 ≤ r.1 := by
  have hl1 := hl.1
  obtain ⟨r, h1, _, h3, _⟩ := lockMarks_loop l.length 0 l 1 hl (by omega) (by omega) (by omega) (by omega)
  exact ⟨r, h1, h3⟩
theorem lockMarks_ev (l : List S45) (hl : shortK l) : ∃ r : Int × List S45, Ev (fun k => laws_markLockS.f k l 1) r ∧ Ev (fun k => laws_heldLockS.f k r.2 1) r.1 ∧ 0 ≤ r.1 := by
  have hl1 := hl.1
  obtain ⟨r, h1, h2, h3, _⟩ := lockMarks_loop l.length 0 l 1 hl (by omega) (by omega) (by omega) (by omega)
  exact ⟨r, h1, h2, h3⟩
theorem sLk_ev (l : List S45) (hl : shortK l) : (lkOk l → Ev (fun k => spec_LocksOk.f k l) true) ∧ (¬ lkOk l → Ev (fun k => spec_LocksOk.f k l) false) := by
  obtain ⟨b, hb, _, hq⟩ := locks_ev l hl
  constructor
  · intro h
    rw [hq.2 h] at hb
    exact hb
  · intro h
    rw [Bool.eq_false_iff.2 fun z => h (hq.1 z)] at hb
    exact hb
theorem sChainOf_ev (l : List S45) (h : lkOk l) (no : Int) (o : List Int) (ho : IsChain l no o) : Ev (fun k => spec_ChainOf.f k l no) o := by
  unfold spec_ChainOf.f
  exact Ev.bind ((sLk_ev l (lk_short l h)).1 h) (evPos rfl (Ev.bind (chain_both l (lk_short l h) no o ho).2 (Ev.now _)))
theorem sCopy_loop (l : List S45) (hl : shortK l) : ∀ (d i : Nat), l.length - i = d → i ≤ l.length → Ev (fun k => spec_l7Copy.l0 k l (l.take i) (i : Int)) l := by
  have hl1 := hl.1
  intro d
  induction d with
  | zero =>
    intro i hd hi
    refine Ev.step (fun k => by simp only [spec_l7Copy.l0]; rfl) ?_
    refine evNeg (by omega) ?_
    rw [List.take_of_length_le (by omega)]
    exact Ev.now _
  | succ d ih =>
    intro i hd hi
    have hi2 : i < l.length := by omega
    have hf := hl.2 l[i] (List.getElem_mem hi2)
    have e : wrap64 ((i : Int) + 1) = ((i + 1 : Nat) : Int) := by rw [wr _ (by omega) (by omega)]; omega
    refine Ev.step (fun k => by simp only [spec_l7Copy.l0, Option.bind_some]; rfl) ?_
    refine evPos (by omega) (evPos (by omega) ?_)
    rw [rdK l i hi2, e]
    refine evPos (by simp only [List.length_nil]; omega) (evPos (by rw [List.length_take]; omega) ?_)
    have := ih (i + 1) (by omega) (by omega)
    rw [List.take_succ_eq_append_getElem hi2] at this
    exact this
theorem sCopy_ev (l : List S45) (hl : shortK l) : Ev (fun k => spec_l7Copy.f k l) l := sCopy_loop l hl l.length 0 (by omega) (by omega)
theorem sAsk_ev (l : List S45) (hl : shortK l) (i no : Int) (r : List S45 × Int) (hr : AskR l i no r) : Ev (fun k => spec_LockAsk.f k l i no) r := by
  have hl1 := hl.1
  unfold spec_LockAsk.f
  have hk : lkOk l → Ev (fun k => spec_LocksOk.f k l) true := (sLk_ev l hl).1
  have e1 : wrap64 ((l.length : Int) - 1) = (l.length : Int) - 1 := wr _ (by omega) (by omega)
  have bad : Ev (fun k => spec_LockAsk.j0 k l i no l true) (l, 2) := by
    refine Ev.step (fun k => by simp only [spec_LockAsk.j0]; rfl) ?_
    exact evPos trivial (Ev.now _)
  simp only [sin_eq, Option.bind_some, decide_eq_true_eq]
  rcases hr with ⟨z, rfl⟩ | ⟨h, z, rfl⟩ | ⟨h, h3, h4, j, hj, rfl, z⟩
  · exact Ev.bind ((sLk_ev l hl).2 z) (evNeg (by decide) (Ev.now _))
  · refine Ev.bind (hk h) (evPos rfl (Ev.bind (sCopy_ev l hl) ?_))
    rw [e1]
    by_cases g1 : 0 ≤ i ∧ i ≤ (l.length : Int) - 1
    · refine evPos g1 ?_
      by_cases g2 : 1 ≤ no ∧ no ≤ 1000
      · refine evPos g2 (Ev.bind (sWaitAt_ev l hl no) ?_)
        have g3 : 0 ≤ waitAt l no := by
          rcases z with z | z | z
          · exact absurd ⟨g1.1, by omega⟩ z
          · exact absurd g2 z
          · exact z
        rw [decide_eq_true (show waitAt l no ≥ 0 from g3)]
        exact bad
      · exact evNeg g2 bad
    · exact evNeg g1 bad
  · refine Ev.bind (hk h) (evPos rfl (Ev.bind (sCopy_ev l hl) ?_))
    rw [e1]
    refine evPos (by omega) (evPos h3 (Ev.bind (sWaitAt_ev l hl no) ?_))
    rw [decide_eq_false (show ¬ waitAt l no ≥ 0 by omega)]
    refine Ev.step (fun k => by simp only [spec_LockAsk.j0]; rfl) ?_
    refine evNeg (by decide) (evPos (by omega) (evPos (by omega) ?_))
    rw [rdK l j hj]
    rcases z with ⟨h5, rfl⟩ | ⟨h5, h6, rfl⟩ | ⟨h5, h6, o, ho, z⟩
    · exact evPos h5 (Ev.now _)
    · refine evNeg h5 (evPos h6 (evPos (by omega) ?_))
      rw [set_toNat]
      exact Ev.now _
    · refine evNeg h5 (evNeg h6 (Ev.bind (sChainOf_ev l h _ o ho) ?_))
      have hq := chain_len l o _ ho
      refine Ev.bind (hasE_ev o (by omega) no) ?_
      rcases z with ⟨h7, rfl⟩ | ⟨h7, rfl⟩
      · exact evPos (decide_eq_true h7) (Ev.now _)
      · have := lk_len l h _ (List.getElem_mem hj)
        refine evNeg (by rw [decide_eq_true_eq]; exact h7) (evPos (by omega) (evPos (by omega) ?_))
        rw [set_toNat]
        exact Ev.now _
def toK (x : S41) : S45 := ⟨x.f0, x.f1⟩
theorem shortK_map (l : List S41) (hl : l.length ≤ 1048576 ∧ ∀ x ∈ l, x.f1.length ≤ 1048576) : shortK (l.map toK) := by
  refine ⟨by rw [List.length_map]; exact hl.1, fun x hx => ?_⟩
  obtain ⟨y, hy, rfl⟩ := List.mem_map.1 hx
  exact hl.2 y hy
theorem rdLK (l : List S41) (i : Nat) (h : i < l.length) : rd_T41 l (i : Int) = l[i] := by
  unfold rd_T41
  rw [Int.toNat_natCast, List.getD_eq_getElem?_getD, List.getElem?_eq_getElem h, Option.getD_some]
theorem szLocks_loop (l : List S41) (hl : l.length ≤ 1048576) : ∀ (d i : Nat) (n : Int), l.length - i = d → i ≤ l.length → 0 ≤ n → n ≤ 1048576 → (∀ x ∈ l, x.f1.length ≤ maxLen) → ∃ r, Ev (fun k => laws_szLockS.l0 k l n (i : Int)) r ∧ (r < 0 ∨ ∀ x ∈ l.drop i, x.f1.length ≤ 1048576) := by
  intro d
  induction d with
  | zero =>
    intro i n hd hi h0 h1 hm
    refine ⟨n, ?_, .inr (by rw [List.drop_eq_nil_of_le (by omega)]; simp)⟩
    refine Ev.step (fun k => by simp only [laws_szLockS.l0]; rfl) ?_
    exact evNeg (by omega) (Ev.now _)
  | succ d ih =>
    intro i n hd hi h0 h1 hm
    have hi2 : i < l.length := by omega
    have hx := hm l[i] (List.getElem_mem hi2)
    unfold maxLen at hx
    have e : wrap64 ((i : Int) + 1) = ((i + 1 : Nat) : Int) := by rw [wr _ (by omega) (by omega)]; omega
    have hz : ∃ q, laws_szLock.f (l[i]).f0 (l[i]).f1 n = some q ∧ (q < 0 ∨ (0 ≤ q ∧ q ≤ n ∧ (l[i]).f1.length ≤ 1048576)) := by
      unfold laws_szLock.f laws_szIntS.f
      rw [wr _ (by omega) (by omega)]
      by_cases g : n - ((l[i]).f1.length : Int) < 0
      · rw [if_pos g]
        exact ⟨-1, by simp, .inl (by omega)⟩
      · rw [if_neg g]
        exact ⟨_, by rw [Option.bind_some, if_neg g], .inr ⟨by omega, by omega, by omega⟩⟩
    obtain ⟨q, hq, hc⟩ := hz
    by_cases hn : q < 0
    · refine ⟨-1, ?_, .inl (by omega)⟩
      refine Ev.step (fun k => by simp only [laws_szLockS.l0]; rfl) ?_
      refine evPos (by omega) (evPos (by omega) ?_)
      rw [rdLK l i hi2, hq]
      simp only [Option.bind_some]
      exact evPos hn (Ev.now _)
    · obtain ⟨c0, c1, c2⟩ := hc.resolve_left hn
      obtain ⟨r, hr, g⟩ := ih (i + 1) q (by omega) (by omega) c0 (by omega) hm
      refine ⟨r, ?_, ?_⟩
      · refine Ev.step (fun k => by simp only [laws_szLockS.l0]; rfl) ?_
        refine evPos (by omega) (evPos (by omega) ?_)
        rw [rdLK l i hi2, hq, e]
        simp only [Option.bind_some]
        exact evNeg hn hr
      · rcases g with g | g
        · exact .inl g
        · refine .inr fun x hx => ?_
          rw [List.drop_eq_getElem_cons hi2] at hx
          rcases List.mem_cons.1 hx with rfl | hx
          · exact c2
          · exact g x hx
theorem szLocks (l : List S41) (hm : l.length ≤ maxLen) (hx : ∀ x ∈ l, x.f1.length ≤ maxLen) : ∃ r, Ev (fun k => laws_szLockS.f k l 1048576) r ∧ (r < 0 ∨ (l.length ≤ 1048576 ∧ ∀ x ∈ l, x.f1.length ≤ 1048576)) := by
  unfold maxLen at hm
  by_cases h : 1048576 - (l.length : Int) < 0
  · refine ⟨-1, ?_, .inl (by omega)⟩
    unfold laws_szLockS.f
    rw [wr _ (by omega) (by omega)]
    exact evPos h (Ev.now _)
  · obtain ⟨r, e, g⟩ := szLocks_loop l (by omega) l.length 0 (1048576 - (l.length : Int)) (by omega) (by omega) (by omega) (by omega) hx
    refine ⟨r, ?_, ?_⟩
    · unfold laws_szLockS.f
      rw [wr _ (by omega) (by omega)]
      exact evNeg h e
    · rcases g with g | g
      · exact .inl g
      · exact .inr ⟨by omega, fun x hx => g x (by simpa using hx)⟩
theorem full {α : Type} (l : List α) (d : α) (i : Nat) (h : l.length ≤ i) : l.take i ++ List.replicate (l.length - i) d = l := by
  rw [List.take_of_length_le h, show l.length - i = 0 by omega, List.replicate_zero, List.append_nil]
theorem set_step {α : Type} (l : List α) (d : α) (i : Nat) (h : i < l.length) : (l.take i ++ List.replicate (l.length - i) d).set i l[i] = l.take (i + 1) ++ List.replicate (l.length - (i + 1)) d := by
  have hl : (l.take i).length = i := by rw [List.length_take]; omega
  rw [List.set_append_right _ _ (by omega), hl, Nat.sub_self, show l.length - i = (l.length - (i + 1)) + 1 by omega, List.replicate_succ, List.set_cons_zero, List.take_succ_eq_append_getElem h, List.append_assoc]
  rfl
theorem map_step {α β : Type} (f : α → β) (l : List α) (d : β) (i : Nat) (h : i < l.length) : ((l.map f).take i ++ List.replicate (l.length - i) d).set i (f l[i]) = (l.map f).take (i + 1) ++ List.replicate (l.length - (i + 1)) d := by
  have := set_step (l.map f) d i (by simpa using h)
  simpa using this
theorem toInts_loop (l : List Int) (hl : l.length ≤ maxLen) (d : Nat) : ∀ (k i : Nat), l.length - i ≤ d → d < k → laws_toIntS.l0 k l (l.take i ++ List.replicate (l.length - i) 0) (i : Int) = some l := by
  unfold maxLen at hl
  induction d with
  | zero =>
    intro k i hd hk
    obtain ⟨k, rfl⟩ : ∃ m, k = m + 1 := ⟨k - 1, by omega⟩
    simp only [laws_toIntS.l0]
    rw [if_neg (by omega), full l 0 i (by omega)]
  | succ d ih =>
    intro k i hd hk
    obtain ⟨k, rfl⟩ : ∃ m, k = m + 1 := ⟨k - 1, by omega⟩
    simp only [laws_toIntS.l0]
    by_cases h : i < l.length
    · rw [if_pos (by omega), if_pos (by omega), if_pos (by rw [List.length_append, List.length_take, List.length_replicate]; omega), rd_at l i h, Int.toNat_natCast, set_step l 0 i h, wr _ (by omega) (by omega)]
      exact ih k (i + 1) (by omega) (by omega)
    · rw [if_neg (by omega), full l 0 i (by omega)]
theorem toInts_ev (l : List Int) (hl : l.length ≤ 35184372088832) : Ev (fun k => laws_toIntS.f k l) l := by
  refine Ev.of (fun k => laws_toIntS.mono l k) (k := l.length + 1) ?_
  unfold laws_toIntS.f
  rw [if_pos (by omega), if_pos (by simp only [Int.toNat_natCast]; exact hl), Int.toNat_natCast]
  have := toInts_loop l (by unfold maxLen; omega) l.length (l.length + 1) 0 (by omega) (by omega)
  simpa using this
theorem toLocks_loop (l : List S41) (hl : l.length ≤ 1048576 ∧ ∀ x ∈ l, x.f1.length ≤ 1048576) : ∀ (d i : Nat), l.length - i = d → i ≤ l.length → Ev (fun k => laws_toLockS.l0 k l ((l.map toK).take i ++ List.replicate (l.length - i) z45) (i : Int)) (l.map toK) := by
  intro d
  induction d with
  | zero =>
    intro i hd hi
    refine Ev.step (fun k => by simp only [laws_toLockS.l0]; rfl) ?_
    refine evNeg (by omega) ?_
    have e := full (l.map toK) z45 i (by rw [List.length_map]; omega)
    rw [List.length_map] at e
    rw [e]
    exact Ev.now _
  | succ d ih =>
    intro i hd hi
    have hi2 : i < l.length := by omega
    have e : wrap64 ((i : Int) + 1) = ((i + 1 : Nat) : Int) := by rw [wr _ (by omega) (by omega)]; omega
    refine Ev.step (fun k => by simp only [laws_toLockS.l0]; rfl) ?_
    refine evPos (by omega) (evPos (by omega) ?_)
    rw [rdLK l i hi2, e]
    have hq := toInts_ev (l[i]).f1 (by have := hl.2 l[i] (List.getElem_mem hi2); omega)
    have hk : Ev (fun k => laws_toLock.f k (l[i]).f0 (l[i]).f1) ((l[i]).f0, (l[i]).f1) := by
      unfold laws_toLock.f
      exact Ev.bind hq (Ev.now _)
    refine Ev.bind hk ?_
    · refine evPos (by rw [List.length_append, List.length_take, List.length_replicate, List.length_map]; omega) ?_
      rw [Int.toNat_natCast]
      have g := map_step toK l z45 i hi2
      unfold toK at g ⊢
      rw [g]
      exact ih (i + 1) (by omega) (by omega)
theorem toLocks_ev (l : List S41) (hl : l.length ≤ 1048576 ∧ ∀ x ∈ l, x.f1.length ≤ 1048576) : Ev (fun k => laws_toLockS.f k l) (l.map toK) := by
  have := toLocks_loop l hl l.length 0 (by omega) (by omega)
  unfold laws_toLockS.f
  refine evPos (by omega) (evPos (by simp only [Int.toNat_natCast]; omega) ?_)
  rw [Int.toNat_natCast]
  simpa using this
theorem FnExactLockAsk : laws_FnExactLockAsk.Pure := by
  intro l i no hm hok _ _
  refine Ev.rounds (r := true) ?_
  unfold laws_FnExactLockAsk.f
  obtain ⟨r, e, hr⟩ := szLocks l hm (fun x hx => (hok x hx).2.1)
  refine Ev.bind e ?_
  by_cases h : r < 0
  · exact evPos h (Ev.now _)
  · refine evNeg h ?_
    have hl := hr.resolve_left h
    have ht := toLocks_ev l hl
    have hs := shortK_map l hl
    generalize l.map toK = L at ht hs
    refine Ev.bind ht ?_
    obtain ⟨o, ho⟩ := ask_ex L i no
    have h3 : shortK o.1 := by
      by_cases hk : lkOk L
      · exact lk_short _ (ask_ok L hk i no o ho).1
      · rcases ho with ⟨_, rfl⟩ | ⟨z, _⟩ | ⟨z, _⟩
        · exact ⟨by simp, by simp⟩
        · exact absurd z hk
        · exact absurd z hk
    obtain ⟨m, m1, m2⟩ := lockMark_only L hs
    obtain ⟨n, n1, n2, n3⟩ := lockMarks_ev o.1 h3
    refine Ev.bind (sAsk_ev L hs i no o ho) (Ev.bind (iAsk_ev L hs i no o ho) (Ev.bind (eqLocks_ev o.1 h3) (Ev.bind (eqLocks_ev L hs) (Ev.bind m1 (Ev.bind n1 (Ev.bind n2 ?_))))))
    exact evPos ⟨⟨⟨rfl, rfl⟩, rfl⟩, by omega, by omega, rfl⟩ (Ev.now _)

end Go.Proofs.Ythabcadkaocciaa.Pure
