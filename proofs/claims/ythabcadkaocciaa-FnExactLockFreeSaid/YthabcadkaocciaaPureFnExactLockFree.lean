/- The pure statement of FnExactLockFree: at all arguments the program's LockFree and the reference's agree, as plain functions over numbers and lists. Conditions: those of the statement (numbers of 64 bits, lists that lie in memory). -/
import Derived.Test.YthabcadkaocciaaPrintImplLockFree
set_option linter.unusedVariables false
set_option linter.unusedSimpArgs false
namespace Go.Proofs.Ythabcadkaocciaa.Pure
open Go.RowKit Go.Proofs.Ythabcadkaocciaa.Print Go.Proofs.YthabcadkaocciaaW.PrintWords Go.Proofs.YthabcadkaocciaaW.PrintLast Go.Proofs.YthabcadkaocciaaW.PrintMore Go.Proofs.Ythabcadkaocciaa.Base

theorem eqInts_loop (l : List Int) (hl : l.length ≤ maxLen) (d : Nat) : ∀ (k i : Nat), l.length - i ≤ d → d < k → laws_eqIntS.l0 k l l (i : Int) = some true := by
  unfold maxLen at hl
  induction d with
  | zero =>
    intro k i hd hk
    obtain ⟨k, rfl⟩ : ∃ m, k = m + 1 := ⟨k - 1, by omega⟩
    simp only [laws_eqIntS.l0]
    rw [if_neg (by omega)]
  | succ d ih =>
    intro k i hd hk
    obtain ⟨k, rfl⟩ : ∃ m, k = m + 1 := ⟨k - 1, by omega⟩
    simp only [laws_eqIntS.l0]
    by_cases h : i < l.length
    · rw [if_pos (by omega), if_pos (by omega), if_pos (by omega), if_pos trivial, wr _ (by omega) (by omega)]
      exact ih k (i + 1) (by omega) (by omega)
    · rw [if_neg (by omega)]
theorem eqInts_ev (l : List Int) (hl : l.length ≤ maxLen) : Ev (fun k => laws_eqIntS.f k l l) true := by
  refine Ev.of (fun k => laws_eqIntS.mono l l k) (k := l.length + 1) ?_
  unfold laws_eqIntS.f
  rw [if_pos rfl]
  exact eqInts_loop l hl l.length (l.length + 1) 0 (by omega) (by omega)
theorem rdK (l : List S45) (i : Nat) (h : i < l.length) : rd_T45 l (i : Int) = l[i] := by
  unfold rd_T45
  rw [Int.toNat_natCast, List.getD_eq_getElem?_getD, List.getElem?_eq_getElem h, Option.getD_some]
/-- Each lock's waits are no more than so many. -/
def shortK (l : List S45) : Prop := l.length ≤ 1048576 ∧ ∀ x ∈ l, x.f1.length ≤ 1048576
theorem eqLocks_loop (l : List S45) (hl : shortK l) : ∀ (d i : Nat), l.length - i = d → i ≤ l.length → Ev (fun k => laws_eqLockS.l0 k l l (i : Int)) true := by
  obtain ⟨hl1, hl2⟩ := hl
  intro d
  induction d with
  | zero =>
    intro i hd hi
    refine Ev.step (fun k => by simp only [laws_eqLockS.l0]; rfl) ?_
    exact evNeg (by omega) (Ev.now _)
  | succ d ih =>
    intro i hd hi
    have hi2 : i < l.length := by omega
    have e : wrap64 ((i : Int) + 1) = ((i + 1 : Nat) : Int) := by rw [wr _ (by omega) (by omega)]; omega
    refine Ev.step (fun k => by simp only [laws_eqLockS.l0]; rfl) ?_
    refine evPos (by omega) (evPos (by omega) (evPos (by omega) ?_))
    have hq : Ev (fun k => laws_eqIntS.f k (rd_T45 l (i : Int)).f1 (rd_T45 l (i : Int)).f1) true := by
      rw [rdK l i hi2]
      have := hl2 l[i] (List.getElem_mem hi2)
      exact eqInts_ev _ (by unfold maxLen; omega)
    rw [e]
    have hk : Ev (fun k => laws_eqLock.f k (rd_T45 l (i : Int)).f0 (rd_T45 l (i : Int)).f1 (rd_T45 l (i : Int)).f0 (rd_T45 l (i : Int)).f1) true := by
      unfold laws_eqLock.f
      exact evPos rfl (Ev.bind hq (evPos rfl (Ev.now _)))
    exact Ev.bind hk (evPos rfl (ih (i + 1) (by omega) (by omega)))
theorem eqLocks_ev (l : List S45) (hl : shortK l) : Ev (fun k => laws_eqLockS.f k l l) true := by
  unfold laws_eqLockS.f
  exact evPos rfl (eqLocks_loop l hl l.length 0 (by omega) (by omega))
def okL (x : S45) : Prop := (0 ≤ x.f0 ∧ x.f0 ≤ 1000) ∧ (x.f0 = 0 → x.f1.length = 0)
/-- All that wait. -/
def allW (l : List S45) : List Int := l.flatMap (fun x => x.f1)
/-- Whether the chain of a number comes to an end. -/
noncomputable def chB (l : List S45) (no : Int) : Bool := @ite Bool (shortK l) (Classical.propDecidable _) (@decide (∃ o, Ev (fun k => impl_chain.f k l no) (o, true)) (Classical.propDecidable _)) false
def okN (l : List S45) (w : Int) : Prop := (1 ≤ w ∧ w ≤ 1000) ∧ (allW l).count w = 1 ∧ chB l w = true
/-- What LocksOk says. -/
def lkOk (l : List S45) : Prop := l.length ≤ 5 ∧ ∀ x ∈ l, okL x ∧ ∀ w ∈ x.f1, okN l w
def nx (x : Int) : Int := wrap64 (x + 1)
/-- What LockFree answers. -/
def FreeR (l : List S45) (i no nx : Int) (r : List S45 × Bool) : Prop :=
  (¬ lkOk l ∧ r = ([], false)) ∨
  (lkOk l ∧ (¬ (0 ≤ i ∧ i < (l.length : Int)) ∨ no = 0 ∨ ∃ j : Nat, ∃ hj : j < l.length, i = (j : Int) ∧ ((l[j]).f0 ≠ no ∨ (nx ∉ (l[j]).f1 ∧ (nx ≠ 0 ∨ (l[j]).f1 ≠ [])))) ∧ r = (l, false)) ∨
  (lkOk l ∧ no ≠ 0 ∧ ∃ j : Nat, ∃ hj : j < l.length, i = (j : Int) ∧ (l[j]).f0 = no ∧
    ((nx = 0 ∧ (l[j]).f1 = [] ∧ r = (l.set j ⟨nx, (l[j]).f1⟩, true)) ∨ (nx ∈ (l[j]).f1 ∧ r = (l.set j ⟨nx, (l[j]).f1.erase nx⟩, true))))
theorem free_ex (l : List S45) (i no nx : Int) : ∃ r, FreeR l i no nx r := by
  by_cases h : lkOk l
  · by_cases h2 : 0 ≤ i ∧ i < (l.length : Int)
    · have hj : i.toNat < l.length := by omega
      by_cases h3 : no = 0
      · exact ⟨_, .inr (.inl ⟨h, .inr (.inl h3), rfl⟩)⟩
      · by_cases h4 : (l[i.toNat]).f0 = no
        · by_cases h5 : nx ∈ (l[i.toNat]).f1
          · exact ⟨_, .inr (.inr ⟨h, h3, i.toNat, hj, by omega, h4, .inr ⟨h5, rfl⟩⟩)⟩
          · by_cases h6 : nx = 0 ∧ (l[i.toNat]).f1 = []
            · exact ⟨_, .inr (.inr ⟨h, h3, i.toNat, hj, by omega, h4, .inl ⟨h6.1, h6.2, rfl⟩⟩)⟩
            · refine ⟨_, .inr (.inl ⟨h, .inr (.inr ⟨i.toNat, hj, by omega, .inr ⟨h5, ?_⟩⟩), rfl⟩)⟩
              by_cases h7 : nx = 0
              · exact .inr fun z => h6 ⟨h7, z⟩
              · exact .inl h7
        · exact ⟨_, .inr (.inl ⟨h, .inr (.inr ⟨i.toNat, hj, by omega, .inl h4⟩), rfl⟩)⟩
    · exact ⟨_, .inr (.inl ⟨h, .inl h2, rfl⟩)⟩
  · exact ⟨_, .inl ⟨h, rfl⟩⟩
theorem iClone_loop (l : List S45) (hl : shortK l) : ∀ (d i : Nat), l.length - i = d → i ≤ l.length → Ev (fun k => impl_cloneLocks.l0 k (l.take i) l (l.length : Int) (i : Int)) l := by
  have hl1 := hl.1
  intro d
  induction d with
  | zero =>
    intro i hd hi
    refine Ev.step (fun k => by simp only [impl_cloneLocks.l0]; rfl) ?_
    refine evNeg (by omega) ?_
    rw [List.take_of_length_le (by omega)]
    exact Ev.now _
  | succ d ih =>
    intro i hd hi
    have hi2 : i < l.length := by omega
    have hf := hl.2 l[i] (List.getElem_mem hi2)
    have e : wrap64 ((i : Int) + 1) = ((i + 1 : Nat) : Int) := by rw [wr _ (by omega) (by omega)]; omega
    have ec : slices_Clone_int_int.f (l[i]).f1 = some (l[i]).f1 := by
      unfold slices_Clone_int_int.f
      exact if_pos (by omega)
    refine Ev.step (fun k => by simp only [impl_cloneLocks.l0]; rfl) ?_
    refine evPos (by omega) (evPos (by omega) (evPos (by omega) ?_))
    rw [rdK l i hi2, e, ec]
    simp only [Option.bind_some]
    refine evPos (by rw [List.length_take]; omega) ?_
    have := ih (i + 1) (by omega) (by omega)
    rw [List.take_succ_eq_append_getElem hi2] at this
    exact this
theorem iClone_ev (l : List S45) (hl : shortK l) : Ev (fun k => impl_cloneLocks.f k l) l := iClone_loop l hl l.length 0 (by omega) (by omega)
theorem allW_cons (x : S45) (r : List S45) : allW (x :: r) = x.f1 ++ allW r := by
  unfold allW
  rw [List.flatMap_cons]
theorem rd_at (l : List Int) (i : Nat) (h : i < l.length) : rd l (i : Int) = l[i] := by
  unfold rd
  rw [Int.toNat_natCast, List.getD_eq_getElem?_getD, List.getElem?_eq_getElem h, Option.getD_some]
theorem contP_loop (l : List Int) (v : Int) (hm : l.length ≤ 9223372036854775807) : ∀ (k i : Nat), l.length - i < k → ∃ r, slices_Index_int_int.l0 k l v (l.length : Int) (i : Int) = some r ∧ decide (r ≥ 0) = decide (v ∈ l.drop i) := by
  intro k
  induction k with
  | zero => intro i h; omega
  | succ k ih =>
    intro i h
    simp only [slices_Index_int_int.l0]
    by_cases hi : i < l.length
    · rw [if_pos (by omega), if_pos (by omega), if_pos (by omega), rd_at l i hi, wr _ (by omega) (by omega), List.drop_eq_getElem_cons hi]
      by_cases e : v = l[i]
      · rw [if_pos e]
        exact ⟨_, rfl, decide_eq_decide.2 ⟨fun _ => by rw [e]; exact List.mem_cons_self, fun _ => by omega⟩⟩
      · rw [if_neg e]
        obtain ⟨r, q, g⟩ := ih (i + 1) (by omega)
        refine ⟨r, q, g.trans (decide_eq_decide.2 ?_)⟩
        rw [List.mem_cons]
        exact ⟨.inr, fun x => x.resolve_left e⟩
    · rw [if_neg (by omega), List.drop_eq_nil_of_le (by omega)]
      exact ⟨_, rfl, rfl⟩
theorem contP_val (l : List Int) (v : Int) (hm : l.length ≤ 9223372036854775807) : slices_Contains_int_int.f (l.length + 1) l v = some (decide (v ∈ l)) := by
  obtain ⟨r, h, e⟩ := contP_loop l v hm (l.length + 1) 0 (by omega)
  unfold slices_Contains_int_int.f slices_Index_int_int.f
  have h : slices_Index_int_int.l0 (l.length + 1) l v (l.length : Int) 0 = some r := h
  rw [h, Option.bind_some, e]
  rfl
theorem cont_ev (l : List Int) (hl : l.length ≤ 9223372036854775807) (v : Int) : Ev (fun k => slices_Contains_int_int.f k l v) (decide (v ∈ l)) := Ev.of (fun k => slices_Contains_int_int.mono l v k) (contP_val l v (by omega))
theorem idxF_find {α : Type} (p : α → Bool) : ∀ (l : List α) (i : Int), (idxF p l i = -1 ∧ ∀ t ∈ l, p t = false) ∨ ∃ j : Nat, ∃ h : j < l.length, idxF p l i = i + (j : Int) ∧ p l[j] = true := by
  intro l
  induction l with
  | nil => intro i; exact .inl ⟨rfl, fun t ht => absurd ht (by simp)⟩
  | cons x r ih =>
    intro i
    rw [idxF]
    by_cases h : p x = true
    · rw [if_pos h]
      exact .inr ⟨0, by simp, by simp, h⟩
    · rw [if_neg h]
      rcases ih (i + 1) with ⟨e, g⟩ | ⟨j, hj, e, g⟩
      · refine .inl ⟨e, fun t ht => ?_⟩
        rcases List.mem_cons.1 ht with rfl | ht
        · exact Bool.eq_false_iff.2 h
        · exact g t ht
      · refine .inr ⟨j + 1, by simp only [List.length_cons]; omega, by rw [e]; omega, ?_⟩
        rw [List.getElem_cons_succ]
        exact g
/-- Where a number waits. -/
def waitAt (l : List S45) (v : Int) : Int := idxF (fun t => decide (v ∈ t.f1)) l 0
theorem idxK (l : List S45) (v : Int) : waitAt l v = -1 ∨ (0 ≤ waitAt l v ∧ waitAt l v < (l.length : Int)) := by
  rcases idxF_find (fun t : S45 => decide (v ∈ t.f1)) l 0 with ⟨e, _⟩ | ⟨j, hj, e, _⟩
  · exact .inl e
  · refine .inr ?_
    unfold waitAt
    rw [e]
    omega
/-- The owner of what a number waits for. -/
def ownK (l : List S45) (v : Int) : Int := (rd_T45 l (waitAt l v)).f0
theorem hasE_loop (l : List Int) (hl : l.length ≤ 1048576000) (v : Int) : ∀ (d i : Nat), l.length - i = d → i ≤ l.length → Ev (fun k => spec_l7Has.l0 k l v (i : Int)) (decide (v ∈ l.drop i)) := by
  intro d
  induction d with
  | zero =>
    intro i hd hi
    refine Ev.step (fun k => by simp only [spec_l7Has.l0]; rfl) ?_
    refine evNeg (by omega) ?_
    rw [List.drop_eq_nil_of_le (by omega)]
    exact evEq _ (fun _ => rfl) (by simp)
  | succ d ih =>
    intro i hd hi
    have hi2 : i < l.length := by omega
    refine Ev.step (fun k => by simp only [spec_l7Has.l0]; rfl) ?_
    refine evPos (by omega) (evPos (by omega) ?_)
    rw [rd_at l i hi2, List.drop_eq_getElem_cons hi2, wr _ (by omega) (by omega)]
    by_cases h : l[i] = v
    · exact evPos h (evEq _ (fun _ => rfl) (by simp [h]))
    · refine evNeg h ?_
      rw [show decide (v ∈ l[i] :: l.drop (i + 1)) = decide (v ∈ l.drop (i + 1)) from decide_eq_decide.2 (by rw [List.mem_cons]; exact ⟨fun x => x.resolve_left fun e => h e.symm, .inr⟩)]
      exact ih (i + 1) (by omega) (by omega)
theorem hasE_ev (l : List Int) (hl : l.length ≤ 1048576000) (v : Int) : Ev (fun k => spec_l7Has.f k l v) (decide (v ∈ l)) := hasE_loop l hl v l.length 0 (by omega) (by omega)
theorem sWaitAt_loop (l : List S45) (hl : shortK l) (v : Int) : ∀ (d i : Nat), l.length - i = d → i ≤ l.length → Ev (fun k => spec_WaitAt.l0 k l v (i : Int)) (idxF (fun t => decide (v ∈ t.f1)) (l.drop i) (i : Int)) := by
  obtain ⟨hl1, hl2⟩ := hl
  intro d
  induction d with
  | zero =>
    intro i hd hi
    refine Ev.step (fun k => by simp only [spec_WaitAt.l0]; rfl) ?_
    refine evNeg (by omega) ?_
    rw [List.drop_eq_nil_of_le (by omega), idxF]
    exact Ev.now _
  | succ d ih =>
    intro i hd hi
    have hi2 : i < l.length := by omega
    have e : wrap64 ((i : Int) + 1) = ((i + 1 : Nat) : Int) := by rw [wr _ (by omega) (by omega)]; omega
    refine Ev.step (fun k => by simp only [spec_WaitAt.l0]; rfl) ?_
    refine evPos (by omega) (evPos (by omega) ?_)
    rw [rdK l i hi2, e, List.drop_eq_getElem_cons hi2, idxF]
    refine Ev.bind (hasE_ev _ (by have := hl2 l[i] (List.getElem_mem hi2); omega) v) ?_
    by_cases h : v ∈ (l[i]).f1
    · rw [if_pos (decide_eq_true h)]
      exact evPos (decide_eq_true h) (Ev.now _)
    · rw [if_neg (by rw [decide_eq_true_eq]; exact h)]
      exact evNeg (by rw [decide_eq_true_eq]; exact h) (ih (i + 1) (by omega) (by omega))
theorem sWaitAt_ev (l : List S45) (hl : shortK l) (v : Int) : Ev (fun k => spec_WaitAt.f k l v) (waitAt l v) := sWaitAt_loop l hl v l.length 0 (by omega) (by omega)
/-- From a number of C on there is no end. -/
theorem chain_round (l : List S45) (hl : shortK l) (C : List Int) (hC : ∀ x ∈ C, 0 ≤ waitAt l x ∧ ownK l x ∈ C) : ∀ (d j : Nat) (no : Int) (out : List Int), l.length + 1 - j = d → j ≤ l.length + 1 → out.length ≤ j + 1 → no ∈ C → ∃ s, Ev (fun k => spec_l7Chain.l0 k l no out (j : Int)) (s, false) := by
  have hl1 := hl.1
  intro d
  induction d with
  | zero =>
    intro j no out hd hj ho hn
    refine ⟨out, Ev.step (fun k => by simp only [spec_l7Chain.l0]; rfl) ?_⟩
    exact evNeg (by omega) (Ev.now _)
  | succ d ih =>
    intro j no out hd hj ho hn
    have e : wrap64 ((j : Int) + 1) = ((j + 1 : Nat) : Int) := by rw [wr _ (by omega) (by omega)]; omega
    obtain ⟨h0, h1⟩ := hC no hn
    have hlt := (idxK l no).resolve_left (by omega)
    obtain ⟨s, hs⟩ := ih (j + 1) (ownK l no) (out ++ [ownK l no]) (by omega) (by omega) (by rw [List.length_append, List.length_singleton]; omega) h1
    refine ⟨s, Ev.step (fun k => by simp only [spec_l7Chain.l0]; rfl) ?_⟩
    refine evPos (by omega) (Ev.bind (sWaitAt_ev l hl no) (evNeg (by omega) (evPos h0 (evPos hlt.2 (evPos (by omega) ?_)))))
    rw [e]
    exact hs
theorem nat_nodup_le : ∀ (n : Nat) (I : List Nat), I.Nodup → (∀ i ∈ I, i < n) → I.length ≤ n := by
  intro n
  induction n with
  | zero =>
    intro I _ h
    cases I with
    | nil => exact Nat.le_refl _
    | cons x r => exact absurd (h x List.mem_cons_self) (by omega)
  | succ n ih =>
    intro I hn h
    have a := ih (I.erase n) (hn.erase n) (fun i hi => by
      have hm := (List.Nodup.mem_erase_iff hn).1 hi
      have := h i hm.2
      have := hm.1
      omega)
    by_cases hm : n ∈ I
    · rw [List.length_erase_of_mem hm] at a
      omega
    · rw [List.erase_of_not_mem hm] at a
      omega
theorem chain_sim (l : List S45) (hl : shortK l) : ∀ (d j : Nat) (pre : List Int) (no : Int), l.length + 1 - j = d → j ≤ l.length → pre.length = j → (pre.map (waitAt l)).Nodup → (∀ x ∈ pre, 0 ≤ waitAt l x ∧ ownK l x ∈ pre ++ [no]) → ∃ (b : Bool) (o s : List Int), Ev (fun k => impl_chain.l0 k l no (pre ++ [no])) (o, b) ∧ Ev (fun k => spec_l7Chain.l0 k l no (pre ++ [no]) (j : Int)) (s, b) ∧ (b = true → s = o) ∧ (b = false → o = []) ∧ (b = true → o.length ≤ l.length + 1 ∧ ∃ t, o = pre ++ no :: t) := by
  have hl1 := hl.1
  intro d
  induction d with
  | zero =>
    intro j pre no hd hj hp hn hpre
    omega
  | succ d ih =>
    intro j pre no hd hj hp hn hpre
    have e : wrap64 ((j : Int) + 1) = ((j + 1 : Nat) : Int) := by rw [wr _ (by omega) (by omega)]; omega
    have hlen : (pre ++ [no]).length = j + 1 := by rw [List.length_append, List.length_singleton, hp]
    rcases idxK l no with hw | ⟨h0, hlt⟩
    · refine ⟨true, pre ++ [no], pre ++ [no], ?_, ?_, fun _ => rfl, fun h => absurd h (by decide), fun _ => ⟨by omega, [], rfl⟩⟩
      · refine Ev.step (fun k => by simp only [impl_chain.l0, impl_WaitAt.f, Option.bind_some]; rfl) ?_
        exact evPos (show waitAt l no < 0 by omega) (Ev.now _)
      · refine Ev.step (fun k => by simp only [spec_l7Chain.l0]; rfl) ?_
        exact evPos (by omega) (Ev.bind (sWaitAt_ev l hl no) (evPos (by omega) (Ev.now _)))
    · by_cases hc : ownK l no ∈ pre ++ [no]
      · have hC : ∀ x ∈ pre ++ [no], 0 ≤ waitAt l x ∧ ownK l x ∈ pre ++ [no] := by
          intro x hx
          rcases List.mem_append.1 hx with hx | hx
          · exact hpre x hx
          · rw [List.mem_singleton.1 hx]
            exact ⟨h0, hc⟩
        obtain ⟨s, hs⟩ := chain_round l hl (pre ++ [no]) hC (l.length + 1 - j) j no (pre ++ [no]) rfl (by omega) (by omega) (by simp)
        refine ⟨false, [], s, ?_, hs, fun h => absurd h (by decide), fun _ => rfl, fun h => absurd h (by decide)⟩
        refine Ev.step (fun k => by simp only [impl_chain.l0, impl_WaitAt.f, Option.bind_some]; rfl) ?_
        refine evNeg (show ¬ waitAt l no < 0 by omega) (evPos h0 (evPos hlt (Ev.bind (cont_ev _ (by omega) _) ?_)))
        exact evPos (decide_eq_true hc) (Ev.now _)
      · have hn2 : ((pre ++ [no]).map (waitAt l)).Nodup := by
          rw [List.map_append, List.nodup_append]
          refine ⟨hn, by simp, ?_⟩
          intro a ha b hb hab
          simp only [List.map_cons, List.map_nil, List.mem_singleton] at hb
          obtain ⟨x, hx, rfl⟩ := List.mem_map.1 ha
          have ho : ownK l x = ownK l no := by unfold ownK; rw [hab, hb]
          have := (hpre x hx).2
          rw [ho] at this
          exact hc this
        have hpg := nat_nodup_le l.length ((pre ++ [no]).map (fun x => (waitAt l x).toNat)) (by
          have := hn2
          rw [show ((pre ++ [no]).map (fun x => (waitAt l x).toNat)) = ((pre ++ [no]).map (waitAt l)).map Int.toNat by rw [List.map_map]; rfl]
          refine List.Pairwise.map _ ?_ (List.Pairwise.and_mem.1 hn2)
          intro a b hab hq
          obtain ⟨x, hx, rfl⟩ := List.mem_map.1 hab.1
          obtain ⟨y, hy, rfl⟩ := List.mem_map.1 hab.2.1
          have ge : ∀ z ∈ pre ++ [no], 0 ≤ waitAt l z := by
            intro z hz
            rcases List.mem_append.1 hz with hz | hz
            · exact (hpre z hz).1
            · rw [List.mem_singleton.1 hz]
              exact h0
          have := ge x hx
          have := ge y hy
          exact hab.2.2 (by omega)) (by
          intro i hi
          obtain ⟨x, hx, rfl⟩ := List.mem_map.1 hi
          rcases idxK l x with q | q
          · rcases List.mem_append.1 hx with hx | hx
            · have := (hpre x hx).1
              omega
            · rw [List.mem_singleton.1 hx] at q
              omega
          · omega)
        rw [List.length_map, hlen] at hpg
        obtain ⟨b, o, s, h1, h2, h3, h4, h5⟩ := ih (j + 1) (pre ++ [no]) (ownK l no) (by omega) hpg hlen hn2 (by
          intro x hx
          rcases List.mem_append.1 hx with hx | hx
          · exact ⟨(hpre x hx).1, List.mem_append.2 (.inl (hpre x hx).2)⟩
          · rw [List.mem_singleton.1 hx]
            exact ⟨h0, by simp⟩)
        refine ⟨b, o, s, ?_, ?_, h3, h4, fun hb => ⟨(h5 hb).1, by obtain ⟨t, ht⟩ := (h5 hb).2; exact ⟨ownK l no :: t, by rw [ht, List.append_assoc]; rfl⟩⟩⟩
        · refine Ev.step (fun k => by simp only [impl_chain.l0, impl_WaitAt.f, Option.bind_some]; rfl) ?_
          refine evNeg (show ¬ waitAt l no < 0 by omega) (evPos h0 (evPos hlt (Ev.bind (cont_ev _ (by omega) _) ?_)))
          exact evNeg (by rw [decide_eq_true_eq]; exact hc) (evPos (by omega) h1)
        · refine Ev.step (fun k => by simp only [spec_l7Chain.l0]; rfl) ?_
          refine evPos (by omega) (Ev.bind (sWaitAt_ev l hl no) (evNeg (by omega) (evPos h0 (evPos hlt (evPos (by omega) ?_)))))
          rw [e]
          exact h2
theorem chain_ex (l : List S45) (hl : shortK l) (no : Int) : ∃ (b : Bool) (o s : List Int), Ev (fun k => impl_chain.f k l no) (o, b) ∧ Ev (fun k => spec_l7Chain.f k l no) (s, b) ∧ (b = true → s = o) ∧ (b = false → o = []) ∧ (b = true → o.length ≤ l.length + 1 ∧ ∃ t, o = no :: t) := chain_sim l hl (l.length + 1) 0 [] no (by omega) (by omega) rfl (by simp) (fun x hx => absurd hx (by simp))
theorem ev_one {α : Type} {f : Nat → Option α} {r s : α} (h : Ev f r) (g : Ev f s) : r = s := by
  obtain ⟨a, ha⟩ := h
  obtain ⟨b, hb⟩ := g
  have := (ha (a + b) (by omega)).symm.trans (hb (a + b) (by omega))
  exact Option.some.inj this
theorem chB_ev (l : List S45) (hl : shortK l) (no : Int) : ∃ o s, Ev (fun k => impl_chain.f k l no) (o, chB l no) ∧ Ev (fun k => spec_l7Chain.f k l no) (s, chB l no) ∧ (chB l no = true → s = o) ∧ (chB l no = false → o = []) ∧ (chB l no = true → o.length ≤ l.length + 1 ∧ ∃ t, o = no :: t) := by
  obtain ⟨b, o, s, h1, h2, h3, h4, h5⟩ := chain_ex l hl no
  have : chB l no = b := by
    unfold chB
    rw [if_pos hl]
    cases b with
    | true => exact @decide_eq_true _ (Classical.propDecidable _) ⟨o, h1⟩
    | false =>
      refine @decide_eq_false _ (Classical.propDecidable _) ?_
      rintro ⟨o2, h⟩
      have := ev_one h h1
      simp at this
  rw [this]
  exact ⟨o, s, h1, h2, h3, h4, h5⟩
theorem iLocks_l2 (l : List S45) (hl : shortK l) (x3 : List Int) (hx : x3.length ≤ 2199023255552) : ∀ (c j : Nat), x3.length - j = c → j ≤ x3.length → ∃ b, Ev (fun k => impl_LocksOk.l2 k l x3 (x3.length : Int) (j : Int)) b ∧ (b = true ↔ (∀ w ∈ x3.drop j, chB l w = true) ∧ l.length ≤ 5) := by
  intro c
  induction c with
  | zero =>
    intro j hc hj
    refine ⟨decide ((l.length : Int) ≤ 5), ?_, ?_⟩
    · refine Ev.step (fun k => by simp only [impl_LocksOk.l2]; rfl) ?_
      exact evNeg (by omega) (Ev.now _)
    · rw [List.drop_eq_nil_of_le (by omega), decide_eq_true_eq]
      exact ⟨fun z => ⟨fun w hw => absurd hw (by simp), by omega⟩, fun z => by omega⟩
  | succ c ihc =>
    intro j hc hj
    have hj2 : j < x3.length := by omega
    have ej : Unit → wrap64 ((j : Int) + 1) = ((j + 1 : Nat) : Int) := fun _ => by rw [wr _ (by omega) (by omega)]; omega
    obtain ⟨o, s, ho, _, _⟩ := chB_ev l hl (x3[j])
    have head : ∀ r, (chB l x3[j] = true → Ev (fun k => impl_LocksOk.l2 k l x3 (x3.length : Int) ((j + 1 : Nat) : Int)) r) → (¬ chB l x3[j] = true → r = false) → Ev (fun k => impl_LocksOk.l2 k l x3 (x3.length : Int) (j : Int)) r := by
      intro r hr hf
      refine Ev.step (fun k => by simp only [impl_LocksOk.l2]; rfl) ?_
      refine evPos (by omega) (evPos (by omega) (evPos (by omega) ?_))
      rw [rd_at _ j hj2, ej ()]
      refine Ev.bind ho ?_
      by_cases h : chB l x3[j] = true
      · exact evPos h (hr h)
      · rw [hf h]
        exact evNeg h (Ev.now _)
    rw [List.drop_eq_getElem_cons hj2, List.forall_mem_cons]
    by_cases h : chB l x3[j] = true
    · obtain ⟨b, hb, hx2⟩ := ihc (j + 1) (by omega) (by omega)
      exact ⟨b, head b (fun _ => hb) (fun z => absurd h z), hx2.trans ⟨fun z => ⟨⟨h, z.1⟩, z.2⟩, fun z => ⟨z.1.2, z.2⟩⟩⟩
    · exact ⟨false, head false (fun z => absurd z h) (fun _ => rfl), ⟨fun z => absurd z (by decide), fun z => absurd z.1.1 h⟩⟩
theorem in_eq (a b c : Int) : impl_in.f a b c = some (decide (b ≤ a ∧ a ≤ c)) := by
  unfold impl_in.f
  by_cases h : a ≥ b
  · rw [if_pos h]; simp [show b ≤ a from h]
  · rw [if_neg h]; simp; omega
/-- What impl.LocksOk still asks: of the numbers met (x3), of those to come (R), of the locks to come (L). -/
def restI (l : List S45) (x3 R : List Int) (L : List S45) : Prop := (∀ x ∈ L, okL x) ∧ (∀ w ∈ R, 1 ≤ w ∧ w ≤ 1000) ∧ (x3 ++ R).Nodup ∧ (∀ w ∈ x3 ++ R, chB l w = true) ∧ l.length ≤ 5
theorem iLocks_loop (l : List S45) (hl : shortK l) : ∀ (d i : Nat) (x3 : List Int), l.length - i = d → i ≤ l.length → x3.length ≤ 1048576 * i → x3.Nodup → ∃ b, Ev (fun k => impl_LocksOk.l0 k l x3 l (l.length : Int) (i : Int)) b ∧ (b = true ↔ restI l x3 (allW (l.drop i)) (l.drop i)) := by
  have hl1 := hl.1
  intro d
  induction d with
  | zero =>
    intro i x3 hd hi hx hn
    obtain ⟨b, hb, hq⟩ := iLocks_l2 l hl x3 (by omega) x3.length 0 (by omega) (by omega)
    refine ⟨b, ?_, ?_⟩
    · refine Ev.step (fun k => by simp only [impl_LocksOk.l0]; rfl) ?_
      exact evNeg (by omega) hb
    · rw [List.drop_eq_nil_of_le (show l.length ≤ i by omega)]
      rw [List.drop_zero] at hq
      refine hq.trans ?_
      unfold restI
      rw [show allW ([] : List S45) = [] from rfl, List.append_nil]
      exact ⟨fun z => ⟨fun x hx => absurd hx (by simp), fun x hx => absurd hx (by simp), hn, z.1, z.2⟩, fun z => ⟨z.2.2.2.1, z.2.2.2.2⟩⟩
  | succ d ih =>
    intro i x3 hd hi hx hn
    have hi2 : i < l.length := by omega
    have hf := hl.2 l[i] (List.getElem_mem hi2)
    have e : Unit → wrap64 ((i : Int) + 1) = ((i + 1 : Nat) : Int) := fun _ => by rw [wr _ (by omega) (by omega)]; omega
    have inner : ∀ (c j : Nat) (x3 : List Int), (l[i]).f1.length - j = c → j ≤ (l[i]).f1.length → x3.length ≤ 1048576 * i + j → x3.Nodup → ∃ b, Ev (fun k => impl_LocksOk.l1 k l x3 l (l.length : Int) (i : Int) (l[i]).f1 ((l[i]).f1.length : Int) (j : Int)) b ∧ (b = true ↔ restI l x3 ((l[i]).f1.drop j ++ allW (l.drop (i + 1))) (l.drop (i + 1))) := by
      intro c
      induction c with
      | zero =>
        intro j x3 hc hj hx hn
        obtain ⟨b, hb, hq⟩ := ih (i + 1) x3 (by omega) (by omega) (by omega) hn
        refine ⟨b, ?_, by rw [List.drop_eq_nil_of_le (show (l[i]).f1.length ≤ j by omega), List.nil_append]; exact hq⟩
        refine Ev.step (fun k => by simp only [impl_LocksOk.l1]; rfl) ?_
        refine evNeg (by omega) ?_
        rw [e ()]
        exact hb
      | succ c ihc =>
        intro j x3 hc hj hx hn
        have hj2 : j < (l[i]).f1.length := by omega
        have ej : Unit → wrap64 ((j : Int) + 1) = ((j + 1 : Nat) : Int) := fun _ => by rw [wr _ (by omega) (by omega)]; omega
        have head : ∀ r, ((1 ≤ (l[i]).f1[j] ∧ (l[i]).f1[j] ≤ 1000) → (l[i]).f1[j] ∉ x3 → Ev (fun k => impl_LocksOk.l1 k l (x3 ++ [(l[i]).f1[j]]) l (l.length : Int) (i : Int) (l[i]).f1 ((l[i]).f1.length : Int) ((j + 1 : Nat) : Int)) r) → (¬ ((1 ≤ (l[i]).f1[j] ∧ (l[i]).f1[j] ≤ 1000) ∧ (l[i]).f1[j] ∉ x3) → r = false) → Ev (fun k => impl_LocksOk.l1 k l x3 l (l.length : Int) (i : Int) (l[i]).f1 ((l[i]).f1.length : Int) (j : Int)) r := by
          intro r hr hf2
          refine Ev.step (fun k => by simp only [impl_LocksOk.l1]; rfl) ?_
          refine evPos (by omega) (evPos (by omega) (evPos (by omega) ?_))
          rw [rd_at _ j hj2, ej ()]
          simp only [impl_isNo.f, in_eq, Option.bind_some]
          by_cases h1 : 1 ≤ (l[i]).f1[j] ∧ (l[i]).f1[j] ≤ 1000
          · refine evPos (decide_eq_true h1) (Ev.bind (cont_ev x3 (by omega) _) ?_)
            by_cases h2 : (l[i]).f1[j] ∈ x3
            · rw [hf2 fun z => z.2 h2]
              exact evPos (decide_eq_true h2) (Ev.now _)
            · exact evNeg (by rw [decide_eq_true_eq]; exact h2) (evPos (by omega) (hr h1 h2))
          · rw [hf2 fun z => h1 z.1]
            exact evNeg (by rw [decide_eq_true_eq]; exact h1) (Ev.now _)
        rw [List.drop_eq_getElem_cons hj2, List.cons_append]
        by_cases h : (1 ≤ (l[i]).f1[j] ∧ (l[i]).f1[j] ≤ 1000) ∧ (l[i]).f1[j] ∉ x3
        · obtain ⟨b, hb, hq⟩ := ihc (j + 1) (x3 ++ [(l[i]).f1[j]]) (by omega) (by omega) (by rw [List.length_append, List.length_singleton]; omega) (by
            rw [List.nodup_append]
            exact ⟨hn, by simp, fun a ha b hb hab => h.2 (by rw [List.mem_singleton] at hb; rw [← hb, ← hab]; exact ha)⟩)
          refine ⟨b, head b (fun _ _ => hb) (fun z => absurd h z), hq.trans ?_⟩
          unfold restI
          rw [List.forall_mem_cons, List.append_assoc, List.singleton_append]
          exact ⟨fun z => ⟨z.1, ⟨h.1, z.2.1⟩, z.2.2⟩, fun z => ⟨z.1, z.2.1.2, z.2.2⟩⟩
        · refine ⟨false, head false (fun x y => absurd ⟨x, y⟩ h) (fun _ => rfl), ⟨fun z => absurd z (by decide), fun z => ?_⟩⟩
          unfold restI at z
          rw [List.forall_mem_cons, List.nodup_append] at z
          exact absurd ⟨z.2.1.1, fun m => z.2.2.1.2.2 _ m _ List.mem_cons_self rfl⟩ h
    obtain ⟨b, hb, hq⟩ := inner (l[i]).f1.length 0 x3 (by omega) (by omega) (by omega) hn
    rw [List.drop_zero] at hq
    have good : Ev (fun k => impl_LocksOk.j1 k l x3 l (l.length : Int) (i : Int) false (l[i]).f0 (l[i]).f1) b := by
      refine Ev.step (fun k => by simp only [impl_LocksOk.j1]; rfl) ?_
      exact evNeg (by decide) hb
    have bad : Ev (fun k => impl_LocksOk.j1 k l x3 l (l.length : Int) (i : Int) true (l[i]).f0 (l[i]).f1) false := by
      refine Ev.step (fun k => by simp only [impl_LocksOk.j1]; rfl) ?_
      exact evPos trivial (Ev.now _)
    have top : ∀ r (c : Bool), Ev (fun k => impl_LocksOk.j1 k l x3 l (l.length : Int) (i : Int) c (l[i]).f0 (l[i]).f1) r → (impl_in.f (l[i]).f0 0 1000 = some true ∧ ((l[i]).f0 = 0 ∧ c = decide (((l[i]).f1.length : Int) > 0) ∨ (l[i]).f0 ≠ 0 ∧ c = false) ∨ impl_in.f (l[i]).f0 0 1000 = some false ∧ c = true) → Ev (fun k => impl_LocksOk.l0 k l x3 l (l.length : Int) (i : Int)) r := by
      intro r c hr hc
      refine Ev.step (fun k => by simp only [impl_LocksOk.l0]; rfl) ?_
      refine evPos (by omega) (evPos (by omega) (evPos (by omega) ?_))
      rw [rdK l i hi2]
      rcases hc with ⟨q, hc⟩ | ⟨q, hc⟩
      · rw [q]
        simp only [Option.bind_some]
        refine evPos trivial ?_
        rcases hc with ⟨z, hc⟩ | ⟨z, hc⟩
        · refine evPos z ?_
          rw [← hc]
          exact hr
        · refine evNeg z ?_
          rw [← hc]
          exact hr
      · rw [q]
        simp only [Option.bind_some]
        refine evNeg (by decide) ?_
        rw [← hc]
        exact hr
    rw [List.drop_eq_getElem_cons hi2, allW_cons]
    by_cases h : okL l[i]
    · refine ⟨b, top b false good (.inl ⟨by rw [in_eq]; exact congrArg some (decide_eq_true h.1), ?_⟩), hq.trans ?_⟩
      · by_cases h0 : (l[i]).f0 = 0
        · have := h.2 h0
          exact .inl ⟨h0, (decide_eq_false (by omega)).symm⟩
        · exact .inr ⟨h0, rfl⟩
      · unfold restI
        rw [List.forall_mem_cons]
        exact ⟨fun z => ⟨⟨h, z.1⟩, z.2⟩, fun z => ⟨z.1.2, z.2⟩⟩
    · refine ⟨false, top false true bad ?_, ⟨fun z => absurd z (by decide), fun z => absurd (z.1 _ List.mem_cons_self) h⟩⟩
      by_cases h1 : 0 ≤ (l[i]).f0 ∧ (l[i]).f0 ≤ 1000
      · by_cases h0 : (l[i]).f0 = 0
        · refine .inl ⟨by rw [in_eq]; exact congrArg some (decide_eq_true h1), .inl ⟨h0, (decide_eq_true ?_).symm⟩⟩
          exact Classical.byContradiction fun z => h ⟨h1, fun _ => by omega⟩
        · exact absurd ⟨h1, fun z => absurd z h0⟩ h
      · exact .inr ⟨by rw [in_eq]; exact congrArg some (decide_eq_false h1), rfl⟩
theorem nodup_count : ∀ (L : List Int), L.Nodup ↔ ∀ w ∈ L, L.count w = 1 := by
  intro L
  induction L with
  | nil => simp
  | cons x r ih =>
    rw [List.nodup_cons, ih]
    constructor
    · rintro ⟨h, g⟩ w hw
      rw [List.count_cons]
      by_cases e : x = w
      · rw [if_pos (by simp [e]), ← e, List.count_eq_zero.2 h]
      · rw [if_neg (by simp [e])]
        exact g w ((List.mem_cons.1 hw).resolve_left fun z => e z.symm)
    · intro h
      have hx := h x List.mem_cons_self
      rw [List.count_cons, if_pos (by simp)] at hx
      have h0 : x ∉ r := List.count_eq_zero.1 (by omega)
      refine ⟨h0, fun w hw => ?_⟩
      have := h w (List.mem_cons_of_mem _ hw)
      rw [List.count_cons, if_neg (by simp only [beq_iff_eq]; intro e; rw [e] at h0; exact h0 hw)] at this
      exact this
theorem sin_eq (a b c : Int) : spec_l1In.f a b c = some (decide (b ≤ a ∧ a ≤ c)) := by
  unfold spec_l1In.f
  by_cases h : a ≥ b
  · rw [if_pos h]; simp [show b ≤ a from h]
  · rw [if_neg h]; simp; omega
theorem cnt1 (n : Int) (a : Nat) : n + ((a + 1 : Nat) : Int) = n + 1 + (a : Int) := by omega
theorem cnt2 (n : Int) (a b : Nat) : n + ((a + b : Nat) : Int) = n + (a : Int) + (b : Int) := by omega
theorem waits_loop (l : List S45) (hl : shortK l) (v : Int) : ∀ (d i : Nat) (n : Int), l.length - i = d → i ≤ l.length → 0 ≤ n → n ≤ 1048576 * (i : Int) → Ev (fun k => spec_l7Waits.l0 k l v n (i : Int)) (n + ((allW (l.drop i)).count v : Int)) := by
  have hl1 := hl.1
  intro d
  induction d with
  | zero =>
    intro i n hd hi h0 h1
    refine Ev.step (fun k => by simp only [spec_l7Waits.l0]; rfl) ?_
    refine evNeg (by omega) ?_
    rw [List.drop_eq_nil_of_le (by omega)]
    exact evEq _ (fun _ => rfl) (by simp [allW])
  | succ d ih =>
    intro i n hd hi h0 h1
    have hi2 : i < l.length := by omega
    have hf := hl.2 l[i] (List.getElem_mem hi2)
    have e : Unit → wrap64 ((i : Int) + 1) = ((i + 1 : Nat) : Int) := fun _ => by rw [wr _ (by omega) (by omega)]; omega
    have inner : ∀ (c j : Nat) (n : Int), (l[i]).f1.length - j = c → j ≤ (l[i]).f1.length → 0 ≤ n → n ≤ 1048576 * (i : Int) + (j : Int) → Ev (fun k => spec_l7Waits.l1 k l v n (i : Int) (j : Int)) (n + ((((l[i]).f1.drop j).count v : Nat) : Int) + ((allW (l.drop (i + 1))).count v : Int)) := by
      intro c
      induction c with
      | zero =>
        intro j n hc hj g0 g1
        refine Ev.step (fun k => by simp only [spec_l7Waits.l1]; rfl) ?_
        refine evPos (by omega) (evPos (by omega) ?_)
        rw [rdK l i hi2, e ()]
        refine evNeg (by omega) ?_
        rw [List.drop_eq_nil_of_le (show (l[i]).f1.length ≤ j by omega), List.count_nil]
        have := ih (i + 1) n (by omega) (by omega) g0 (by omega)
        simpa using this
      | succ c ihc =>
        intro j n hc hj g0 g1
        have hj2 : j < (l[i]).f1.length := by omega
        have ej : Unit → wrap64 ((j : Int) + 1) = ((j + 1 : Nat) : Int) := fun _ => by rw [wr _ (by omega) (by omega)]; omega
        refine Ev.step (fun k => by simp only [spec_l7Waits.l1]; rfl) ?_
        refine evPos (by omega) (evPos (by omega) ?_)
        rw [rdK l i hi2]
        refine evPos (by omega) (evPos (by omega) ?_)
        rw [rd_at _ j hj2, ej (), wr (n + 1) (by omega) (by omega), List.drop_eq_getElem_cons hj2, List.count_cons]
        by_cases h : (l[i]).f1[j] = v
        · refine evPos h ?_
          have := ihc (j + 1) (n + 1) (by omega) (by omega) (by omega) (by omega)
          rw [if_pos (by simp [h])]
          rw [cnt1]
          exact this
        · refine evNeg h ?_
          have := ihc (j + 1) n (by omega) (by omega) (by omega) (by omega)
          rw [if_neg (by simp [h])]
          exact this
    refine Ev.step (fun k => by simp only [spec_l7Waits.l0]; rfl) ?_
    refine evPos (by omega) ?_
    have := inner (l[i]).f1.length 0 n (by omega) (by omega) h0 (by omega)
    rw [List.drop_eq_getElem_cons hi2, allW_cons, List.count_append]
    rw [List.drop_zero] at this
    rw [cnt2]
    exact this
theorem waits_ev (l : List S45) (hl : shortK l) (v : Int) : Ev (fun k => spec_l7Waits.f k l v) ((allW l).count v : Int) := by
  have := waits_loop l hl v l.length 0 0 (by omega) (by omega) (by omega) (by omega)
  rw [List.drop_zero, Int.zero_add] at this
  exact this
theorem sLocks_loop (l : List S45) (hl : shortK l) : ∀ (d i : Nat), l.length - i = d → i ≤ l.length → ∃ b, Ev (fun k => spec_LocksOk.l0 k l (i : Int)) b ∧ (b = true ↔ ∀ x ∈ l.drop i, okL x ∧ ∀ w ∈ x.f1, okN l w) := by
  have hl1 := hl.1
  intro d
  induction d with
  | zero =>
    intro i hd hi
    refine ⟨true, ?_, by rw [List.drop_eq_nil_of_le (by omega)]; simp⟩
    refine Ev.step (fun k => by simp only [spec_LocksOk.l0]; rfl) ?_
    exact evNeg (by omega) (Ev.now _)
  | succ d ih =>
    intro i hd hi
    have hi2 : i < l.length := by omega
    have hf := hl.2 l[i] (List.getElem_mem hi2)
    have e : Unit → wrap64 ((i : Int) + 1) = ((i + 1 : Nat) : Int) := fun _ => by rw [wr _ (by omega) (by omega)]; omega
    have inner : ∀ (c j : Nat), (l[i]).f1.length - j = c → j ≤ (l[i]).f1.length → ∃ b, Ev (fun k => spec_LocksOk.l1 k l (i : Int) (j : Int)) b ∧ (b = true ↔ (∀ w ∈ (l[i]).f1.drop j, okN l w) ∧ ∀ x ∈ l.drop (i + 1), okL x ∧ ∀ w ∈ x.f1, okN l w) := by
      intro c
      induction c with
      | zero =>
        intro j hc hj
        obtain ⟨b, hb, hi3⟩ := ih (i + 1) (by omega) (by omega)
        refine ⟨b, ?_, by rw [List.drop_eq_nil_of_le (show (l[i]).f1.length ≤ j by omega)]; simpa using hi3⟩
        refine Ev.step (fun k => by simp only [spec_LocksOk.l1]; rfl) ?_
        refine evPos (by omega) (evPos (by omega) ?_)
        rw [rdK l i hi2, e ()]
        exact evNeg (by omega) hb
      | succ c ihc =>
        intro j hc hj
        have hj2 : j < (l[i]).f1.length := by omega
        have ej : Unit → wrap64 ((j : Int) + 1) = ((j + 1 : Nat) : Int) := fun _ => by rw [wr _ (by omega) (by omega)]; omega
        obtain ⟨o, s, _, hs, _⟩ := chB_ev l hl ((l[i]).f1[j])
        have head : ∀ r, (okN l (l[i]).f1[j] → Ev (fun k => spec_LocksOk.l1 k l (i : Int) ((j + 1 : Nat) : Int)) r) → (¬ okN l (l[i]).f1[j] → r = false) → Ev (fun k => spec_LocksOk.l1 k l (i : Int) (j : Int)) r := by
          intro r hr hf2
          refine Ev.step (fun k => by simp only [spec_LocksOk.l1]; rfl) ?_
          refine evPos (by omega) (evPos (by omega) ?_)
          rw [rdK l i hi2]
          refine evPos (by omega) (evPos (by omega) ?_)
          rw [rd_at _ j hj2, ej ()]
          refine Ev.bind hs ?_
          simp only [sin_eq, Option.bind_some]
          by_cases h1 : 1 ≤ (l[i]).f1[j] ∧ (l[i]).f1[j] ≤ 1000
          · refine evPos (decide_eq_true h1) (Ev.bind (waits_ev l hl _) ?_)
            by_cases h2 : (allW l).count (l[i]).f1[j] = 1
            · refine evPos (by omega) ?_
              by_cases h3 : chB l (l[i]).f1[j] = true
              · exact evPos h3 (hr ⟨h1, h2, h3⟩)
              · rw [hf2 fun z => h3 z.2.2]
                exact evNeg h3 (Ev.now _)
            · rw [hf2 fun z => h2 z.2.1]
              exact evNeg (by omega) (Ev.now _)
          · rw [hf2 fun z => h1 z.1]
            exact evNeg (by rw [decide_eq_true_eq]; exact h1) (Ev.now _)
        by_cases h : okN l (l[i]).f1[j]
        · obtain ⟨b, hb, hx⟩ := ihc (j + 1) (by omega) (by omega)
          refine ⟨b, head b (fun _ => hb) (fun z => absurd h z), hx.trans ?_⟩
          rw [List.drop_eq_getElem_cons hj2, List.forall_mem_cons]
          exact ⟨fun z => ⟨⟨h, z.1⟩, z.2⟩, fun z => ⟨z.1.2, z.2⟩⟩
        · refine ⟨false, head false (fun z => absurd z h) (fun _ => rfl), ?_⟩
          rw [List.drop_eq_getElem_cons hj2, List.forall_mem_cons]
          exact ⟨fun z => absurd z (by decide), fun z => absurd z.1.1 h⟩
    rw [List.drop_eq_getElem_cons hi2, List.forall_mem_cons]
    obtain ⟨b, hb, hx⟩ := inner (l[i]).f1.length 0 (by omega) (by omega)
    have bad : ¬ okL l[i] → Ev (fun k => spec_LocksOk.j1 k l (i : Int) true) false := by
      intro _
      refine Ev.step (fun k => by simp only [spec_LocksOk.j1]; rfl) ?_
      exact evPos trivial (Ev.now _)
    have good : Ev (fun k => spec_LocksOk.j1 k l (i : Int) false) b := by
      refine Ev.step (fun k => by simp only [spec_LocksOk.j1]; rfl) ?_
      exact evNeg (by decide) hb
    have top : ∀ r (c : Bool), Ev (fun k => spec_LocksOk.j1 k l (i : Int) c) r → (spec_l1In.f (l[i]).f0 0 1000 = some true ∧ ((l[i]).f0 = 0 ∧ c = decide (((l[i]).f1.length : Int) > 0) ∨ (l[i]).f0 ≠ 0 ∧ c = false) ∨ spec_l1In.f (l[i]).f0 0 1000 = some false ∧ c = true) → Ev (fun k => spec_LocksOk.l0 k l (i : Int)) r := by
      intro r c hr hc
      refine Ev.step (fun k => by simp only [spec_LocksOk.l0]; rfl) ?_
      refine evPos (by omega) (evPos (by omega) ?_)
      rw [rdK l i hi2]
      rcases hc with ⟨q, hc⟩ | ⟨q, hc⟩
      · rw [q]
        simp only [Option.bind_some]
        refine evPos trivial ?_
        rcases hc with ⟨z, hc⟩ | ⟨z, hc⟩
        · refine evPos z ?_
          rw [← hc]
          exact hr
        · refine evNeg z ?_
          rw [← hc]
          exact hr
      · rw [q]
        simp only [Option.bind_some]
        refine evNeg (by decide) ?_
        rw [← hc]
        exact hr
    rw [List.drop_zero] at hx
    by_cases h : okL l[i]
    · refine ⟨b, top b false good (.inl ⟨by rw [sin_eq]; exact congrArg some (decide_eq_true h.1), ?_⟩), hx.trans ⟨fun z => ⟨⟨h, z.1⟩, z.2⟩, fun z => ⟨z.1.2, z.2⟩⟩⟩
      by_cases h0 : (l[i]).f0 = 0
      · have := h.2 h0
        exact .inl ⟨h0, (decide_eq_false (by omega)).symm⟩
      · exact .inr ⟨h0, rfl⟩
    · refine ⟨false, top false true (bad h) ?_, ⟨fun z => absurd z (by decide), fun z => absurd z.1.1 h⟩⟩
      by_cases h1 : 0 ≤ (l[i]).f0 ∧ (l[i]).f0 ≤ 1000
      · by_cases h0 : (l[i]).f0 = 0
        · refine .inl ⟨by rw [sin_eq]; exact congrArg some (decide_eq_true h1), .inl ⟨h0, (decide_eq_true ?_).symm⟩⟩
          exact Classical.byContradiction fun z => h ⟨h1, fun _ => by omega⟩
        · exact absurd ⟨h1, fun z => absurd z h0⟩ h
      · exact .inr ⟨by rw [sin_eq]; exact congrArg some (decide_eq_false h1), rfl⟩
theorem sLocks_ev (l : List S45) (hl : shortK l) : ∃ b, Ev (fun k => spec_LocksOk.f k l) b ∧ (b = true ↔ l.length ≤ 5 ∧ ∀ x ∈ l, okL x ∧ ∀ w ∈ x.f1, okN l w) := by
  by_cases h : (l.length : Int) > 5
  · refine ⟨false, ?_, ⟨fun z => absurd z (by decide), fun z => absurd z.1 (by omega)⟩⟩
    unfold spec_LocksOk.f
    exact evPos h (Ev.now _)
  · obtain ⟨b, hb, hx⟩ := sLocks_loop l hl l.length 0 (by omega) (by omega)
    refine ⟨b, ?_, ?_⟩
    · unfold spec_LocksOk.f
      exact evNeg h hb
    · rw [List.drop_zero] at hx
      exact hx.trans ⟨fun z => ⟨by omega, z⟩, fun z => z.2⟩
theorem locks_ev (l : List S45) (hl : shortK l) : ∃ b, Ev (fun k => spec_LocksOk.f k l) b ∧ Ev (fun k => impl_LocksOk.f k l) b ∧ (b = true ↔ l.length ≤ 5 ∧ ∀ x ∈ l, okL x ∧ ∀ w ∈ x.f1, okN l w) := by
  obtain ⟨b, hb, hq⟩ := sLocks_ev l hl
  obtain ⟨c, hc, hr⟩ := iLocks_loop l hl l.length 0 [] (by omega) (by omega) (by simp) (by simp)
  have hc2 : Ev (fun k => impl_LocksOk.f k l) c := hc
  rw [List.drop_zero] at hr
  have hw : ∀ w, w ∈ allW l ↔ ∃ x ∈ l, w ∈ x.f1 := fun w => List.mem_flatMap
  have : b = c := by
    refine Bool.eq_iff_iff.2 (hq.trans (Iff.trans ?_ hr.symm))
    unfold restI okN
    rw [List.nil_append, nodup_count]
    constructor
    · rintro ⟨h5, h⟩
      refine ⟨fun x hx => (h x hx).1, fun w hw2 => ?_, fun w hw2 => ?_, fun w hw2 => ?_, h5⟩
      · obtain ⟨x, hx, m⟩ := (hw w).1 hw2
        exact ((h x hx).2 w m).1
      · obtain ⟨x, hx, m⟩ := (hw w).1 hw2
        exact ((h x hx).2 w m).2.1
      · obtain ⟨x, hx, m⟩ := (hw w).1 hw2
        exact ((h x hx).2 w m).2.2
    · rintro ⟨h1, h2, h3, h4, h5⟩
      refine ⟨h5, fun x hx => ⟨h1 x hx, fun w m => ?_⟩⟩
      have hm := (hw w).2 ⟨x, hx, m⟩
      exact ⟨h2 w hm, h3 w hm, h4 w hm⟩
  rw [← this] at hc2
  exact ⟨b, hb, hc2, hq⟩
theorem iLk_ev (l : List S45) (hl : shortK l) : (lkOk l → Ev (fun k => impl_LocksOk.f k l) true) ∧ (¬ lkOk l → Ev (fun k => impl_LocksOk.f k l) false) := by
  obtain ⟨b, _, hb, hq⟩ := locks_ev l hl
  constructor
  · intro h
    rw [hq.2 h] at hb
    exact hb
  · intro h
    rw [Bool.eq_false_iff.2 fun z => h (hq.1 z)] at hb
    exact hb
theorem index_loop (l : List Int) (v : Int) (hm : l.length ≤ 1048576000) : ∀ (d i : Nat), l.length - i = d → i ≤ l.length → ∃ r, Ev (fun k => slices_Index_int_int.l0 k l v (l.length : Int) (i : Int)) r ∧ ((v ∈ l.drop i ∧ r = (((l.drop i).idxOf v + i : Nat) : Int)) ∨ (v ∉ l.drop i ∧ r = -1)) := by
  intro d
  induction d with
  | zero =>
    intro i hd hi
    refine ⟨-1, ?_, .inr ⟨by rw [List.drop_eq_nil_of_le (by omega)]; simp, rfl⟩⟩
    refine Ev.step (fun k => by simp only [slices_Index_int_int.l0]; rfl) ?_
    exact evNeg (by omega) (Ev.now _)
  | succ d ih =>
    intro i hd hi
    have hi2 : i < l.length := by omega
    have e : wrap64 ((i : Int) + 1) = ((i + 1 : Nat) : Int) := by rw [wr _ (by omega) (by omega)]; omega
    rw [List.drop_eq_getElem_cons hi2]
    by_cases h : v = l[i]
    · refine ⟨(i : Int), ?_, .inl ⟨by rw [h]; exact List.mem_cons_self, by rw [← h, List.idxOf_cons_self]; omega⟩⟩
      refine Ev.step (fun k => by simp only [slices_Index_int_int.l0]; rfl) ?_
      refine evPos (by omega) (evPos (by omega) (evPos (by omega) ?_))
      rw [rd_at l i hi2]
      exact evPos h (Ev.now _)
    · obtain ⟨r, hr, hq⟩ := ih (i + 1) (by omega) (by omega)
      refine ⟨r, ?_, ?_⟩
      · refine Ev.step (fun k => by simp only [slices_Index_int_int.l0]; rfl) ?_
        refine evPos (by omega) (evPos (by omega) (evPos (by omega) ?_))
        rw [rd_at l i hi2, e]
        exact evNeg h hr
      · have hne : ¬ l[i] = v := fun z => h z.symm
        rcases hq with ⟨q1, q2⟩ | ⟨q1, q2⟩
        · exact .inl ⟨List.mem_cons_of_mem _ q1, by rw [q2, List.idxOf_cons, show (l[i] == v) = false by simp [hne], cond_false]; omega⟩
        · exact .inr ⟨fun z => q1 ((List.mem_cons.1 z).resolve_left h), q2⟩
theorem index_ev (l : List Int) (v : Int) (hm : l.length ≤ 1048576000) : ∃ r, Ev (fun k => slices_Index_int_int.f k l v) r ∧ ((v ∈ l ∧ r = ((l.idxOf v : Nat) : Int)) ∨ (v ∉ l ∧ r = -1)) := by
  obtain ⟨r, h, q⟩ := index_loop l v hm l.length 0 (by omega) (by omega)
  rw [List.drop_zero] at q
  exact ⟨r, h, q⟩
theorem count_part (w : Int) (x : S45) : ∀ (l : List S45), x ∈ l → (x.f1).count w ≤ (allW l).count w := by
  intro l
  induction l with
  | nil => intro h; exact absurd h (by simp)
  | cons y r ih =>
    intro h
    rw [allW_cons, List.count_append]
    rcases List.mem_cons.1 h with rfl | h
    · omega
    · have := ih h
      omega
theorem lk_len (l : List S45) (h : lkOk l) (x : S45) (hx : x ∈ l) : (x.f1).length ≤ 1001 := by
  have hn : (x.f1).Nodup := by
    rw [nodup_count]
    intro w hw
    have a := count_part w x l hx
    have b := ((h.2 x hx).2 w hw).2.1
    have c := List.count_pos_iff.2 hw
    omega
  have hr : ∀ w ∈ x.f1, 1 ≤ w ∧ w ≤ 1000 := fun w hw => ((h.2 x hx).2 w hw).1
  have := nat_nodup_le 1001 ((x.f1).map Int.toNat) (by
    rw [List.nodup_iff_pairwise_ne, List.pairwise_map]
    refine List.Pairwise.imp_of_mem ?_ hn
    intro a b ha hb hab e
    have := hr a ha
    have := hr b hb
    exact hab (by omega)) (by
    intro i hi
    obtain ⟨w, hw, rfl⟩ := List.mem_map.1 hi
    have := hr w hw
    omega)
  rwa [List.length_map] at this
theorem set_toNat {α : Type} (l : List α) (j : Nat) (y : α) : l.set ((j : Int)).toNat y = l.set j y := by rw [Int.toNat_natCast]
theorem iFree_ev (l : List S45) (hl : shortK l) (i no nx : Int) (r : List S45 × Bool) (hr : FreeR l i no nx r) : Ev (fun k => impl_LockFree.f k l i no nx) r := by
  have hl1 := hl.1
  unfold impl_LockFree.f
  have hk : lkOk l → Ev (fun k => impl_LocksOk.f k l) true := (iLk_ev l hl).1
  have e1 : wrap64 ((l.length : Int) - 1) = (l.length : Int) - 1 := wr _ (by omega) (by omega)
  have bad : Ev (fun k => impl_LockFree.j0 k l i nx l true) (l, false) := by
    refine Ev.step (fun k => by simp only [impl_LockFree.j0]; rfl) ?_
    exact evPos trivial (Ev.now _)
  simp only [in_eq, Option.bind_some, decide_eq_true_eq]
  rcases hr with ⟨z, rfl⟩ | ⟨h, z, rfl⟩ | ⟨h, h3, j, hj, rfl, h4, z⟩
  · exact Ev.bind ((iLk_ev l hl).2 z) (evNeg (by decide) (Ev.now _))
  · refine Ev.bind (hk h) (evPos rfl (Ev.bind (iClone_ev l hl) ?_))
    rw [e1]
    by_cases g1 : 0 ≤ i ∧ i ≤ (l.length : Int) - 1
    · refine evPos g1 ?_
      by_cases g2 : no = 0
      · exact evPos g2 bad
      · refine evNeg g2 (evPos g1.1 (evPos (by omega) ?_))
        rcases z with z | z | ⟨j, hj, rfl, z⟩
        · exact absurd ⟨g1.1, by omega⟩ z
        · exact absurd z g2
        · rw [rdK l j hj]
          by_cases g3 : (l[j]).f0 = no
          · have z := z.resolve_left (fun x => x g3)
            rw [show ((l[j]).f0 != no) = false by simp [g3]]
            refine Ev.step (fun k => by simp only [impl_LockFree.j0]; rfl) ?_
            refine evNeg (by decide) (evPos (by omega) (evPos (by omega) ?_))
            rw [rdK l j hj]
            have hw := lk_len l h _ (List.getElem_mem hj)
            obtain ⟨q, hq, q2⟩ := index_ev (l[j]).f1 nx (by omega)
            have q3 := (q2.resolve_left fun x => z.1 x.1).2
            refine Ev.bind hq (evPos (by omega) ?_)
            have jt : Ev (fun k => impl_LockFree.j1 k (j : Int) nx l q true) (l, false) := by
              refine Ev.step (fun k => by simp only [impl_LockFree.j1]; rfl) ?_
              exact evPos trivial (Ev.now _)
            by_cases g4 : nx = 0
            · refine evPos g4 ?_
              have : (l[j]).f1 ≠ [] := z.2.resolve_left fun x => x g4
              have hp := List.length_pos_iff.2 this
              rw [decide_eq_true (show ((l[j]).f1.length : Int) > 0 by omega)]
              exact jt
            · exact evNeg g4 jt
          · rw [show ((l[j]).f0 != no) = true by simp [g3]]
            exact bad
    · exact evNeg g1 bad
  · refine Ev.bind (hk h) (evPos rfl (Ev.bind (iClone_ev l hl) ?_))
    rw [e1]
    refine evPos (by omega) (evNeg h3 (evPos (by omega) (evPos (by omega) ?_)))
    rw [rdK l j hj, show ((l[j]).f0 != no) = false by simp [h4]]
    refine Ev.step (fun k => by simp only [impl_LockFree.j0]; rfl) ?_
    refine evNeg (by decide) (evPos (by omega) (evPos (by omega) ?_))
    rw [rdK l j hj]
    have hw := lk_len l h _ (List.getElem_mem hj)
    obtain ⟨q, hq, q2⟩ := index_ev (l[j]).f1 nx (by omega)
    refine Ev.bind hq ?_
    have hy : rd_T45 (l.set j ⟨nx, (l[j]).f1⟩) (j : Int) = ⟨nx, (l[j]).f1⟩ := by
      rw [rdK _ j (by simpa using hj), List.getElem_set_self]
    rcases z with ⟨h5, h6, rfl⟩ | ⟨h5, rfl⟩
    · have q3 := (q2.resolve_left fun x => by have := x.1; rw [h6] at this; exact absurd this (by simp)).2
      refine evPos (by omega) (evPos h5 ?_)
      rw [decide_eq_false (show ¬ ((l[j]).f1.length : Int) > 0 by rw [h6]; simp)]
      refine Ev.step (fun k => by simp only [impl_LockFree.j1, Option.bind_some]; rfl) ?_
      refine evNeg (by decide) (evPos (by omega) (evPos (by omega) (evNeg (by omega) ?_)))
      rw [rdK l j hj, set_toNat]
      exact Ev.now _
    · have q3 := (q2.resolve_right fun x => x.1 h5).2
      have hi : (l[j]).f1.idxOf nx < (l[j]).f1.length := List.idxOf_lt_length_of_mem h5
      refine evNeg (by omega) ?_
      refine Ev.step (fun k => by simp only [impl_LockFree.j1, Option.bind_some]; rfl) ?_
      refine evNeg (by decide) (evPos (by omega) (evPos (by omega) (evPos (by omega) (evPos (by omega) ?_))))
      rw [rdK l j hj, set_toNat, hy]
      refine evPos (by simp only; omega) (evPos (by simp only; omega) ?_)
      rw [set_toNat, List.set_set, q3, Int.toNat_natCast]
      rw [show (l[j]).f1.eraseIdx ((l[j]).f1.idxOf nx) = (l[j]).f1.erase nx from (List.erase_eq_eraseIdx_of_idxOf rfl).symm]
      exact Ev.now _
theorem intMarks_loop : ∀ (d i : Nat) (l : List Int) (x : Int), l.length ≤ 1048577000 → l.length - i = d → i ≤ l.length → 0 ≤ x → x + (d : Int) ≤ 4611686018427380000 → ∃ r : Int × List Int, Ev (fun k => laws_markIntS.l0 k l x (i : Int)) r ∧ Ev (fun k => laws_heldIntS.l0 k r.2 x (i : Int)) r.1 ∧ r.1 = x + (d : Int) ∧ r.2.length = l.length ∧ ∀ j, j < i → r.2[j]? = l[j]? := by
  intro d
  induction d with
  | zero =>
    intro i l x hl hd hi h0 h1
    refine ⟨(x, l), ?_, ?_, by simp, rfl, fun _ _ => rfl⟩
    · refine Ev.step (fun k => by simp only [laws_markIntS.l0]; rfl) ?_
      exact evNeg (by omega) (Ev.now _)
    · refine Ev.step (fun k => by simp only [laws_heldIntS.l0]; rfl) ?_
      exact evNeg (by omega) (Ev.now _)
  | succ d ih =>
    intro i l x hl hd hi h0 h1
    have hi2 : i < l.length := by omega
    have e : wrap64 ((i : Int) + 1) = ((i + 1 : Nat) : Int) := by rw [wr _ (by omega) (by omega)]; omega
    have ex : wrap64 (x + 1) = x + 1 := wr _ (by omega) (by omega)
    obtain ⟨r, h2, h3, h4, h5, h6⟩ := ih (i + 1) (l.set i x) (x + 1) (by rw [List.length_set]; exact hl) (by rw [List.length_set]; omega) (by rw [List.length_set]; omega) (by omega) (by omega)
    rw [List.length_set] at h5
    have hr : i < r.2.length := by omega
    have hv : r.2[i] = x := by
      have := h6 i (by omega)
      rw [List.getElem?_set_self hi2, List.getElem?_eq_getElem hr] at this
      exact Option.some.inj this
    refine ⟨r, ?_, ?_, by omega, h5, ?_⟩
    · refine Ev.step (fun k => by simp only [laws_markIntS.l0]; rfl) ?_
      refine evPos (by omega) (evPos (by omega) ?_)
      rw [e, ex, Int.toNat_natCast]
      exact h2
    · refine Ev.step (fun k => by simp only [laws_heldIntS.l0]; rfl) ?_
      refine evPos (by omega) (evPos (by omega) ?_)
      rw [e, ex, rd_at r.2 i hr]
      exact evPos hv h3
    · intro j hj
      rw [h6 j (by omega), List.getElem?_set_ne (by omega)]
theorem intMarks_ev (l : List Int) (hl : l.length ≤ 1048577000) (x : Int) (h0 : 0 ≤ x) (h1 : x ≤ 4611686017000000000) : ∃ r : Int × List Int, Ev (fun k => laws_markIntS.f k l x) r ∧ Ev (fun k => laws_heldIntS.f k r.2 x) r.1 ∧ r.1 = x + (l.length : Int) ∧ r.2.length = l.length := by
  obtain ⟨r, h2, h3, h4, h5, _⟩ := intMarks_loop l.length 0 l x hl (by omega) (by omega) h0 (by omega)
  exact ⟨r, h2, h3, h4, h5⟩
theorem lockMarks_loop : ∀ (d i : Nat) (l : List S45) (x : Int), shortK l → l.length - i = d → i ≤ l.length → 0 ≤ x → x + 1048577 * (d : Int) ≤ 4611686016000000000 → ∃ r : Int × List S45, Ev (fun k => laws_markLockS.l0 k l x (i : Int)) r ∧ Ev (fun k => laws_heldLockS.l0 k r.2 x (i : Int)) r.1 ∧ 0 ≤ r.1 ∧ r.2.length = l.length ∧ ∀ j, j < i → r.2[j]? = l[j]? := by
  intro d
  induction d with
  | zero =>
    intro i l x hl hd hi h0 h1
    have hl1 := hl.1
    refine ⟨(x, l), ?_, ?_, h0, rfl, fun _ _ => rfl⟩
    · refine Ev.step (fun k => by simp only [laws_markLockS.l0]; rfl) ?_
      exact evNeg (by omega) (Ev.now _)
    · refine Ev.step (fun k => by simp only [laws_heldLockS.l0]; rfl) ?_
      exact evNeg (by omega) (Ev.now _)
  | succ d ih =>
    intro i l x hl hd hi h0 h1
    have hl1 := hl.1
    have hi2 : i < l.length := by omega
    have hf := hl.2 _ (List.getElem_mem hi2)
    have e : wrap64 ((i : Int) + 1) = ((i + 1 : Nat) : Int) := by rw [wr _ (by omega) (by omega)]; omega
    have ex : wrap64 (x + 1) = x + 1 := wr _ (by omega) (by omega)
    obtain ⟨m, m1, m2, m3, m4⟩ := intMarks_ev (l[i]).f1 (by omega) (x + 1) (by omega) (by omega)
    have hs : shortK (l.set i ⟨x, m.2⟩) := by
      refine ⟨by rw [List.length_set]; exact hl1, fun y hy => ?_⟩
      rcases List.mem_or_eq_of_mem_set hy with hy | hy
      · exact hl.2 y hy
      · rw [hy]
        show m.2.length ≤ 1048576
        omega
    obtain ⟨r, h2, h3, h4, h5, h6⟩ := ih (i + 1) (l.set i ⟨x, m.2⟩) m.1 hs (by rw [List.length_set]; omega) (by rw [List.length_set]; omega) (by omega) (by omega)
    rw [List.length_set] at h5
    have hr : i < r.2.length := by omega
    have hv : r.2[i] = ⟨x, m.2⟩ := by
      have := h6 i (by omega)
      rw [List.getElem?_set_self hi2, List.getElem?_eq_getElem hr] at this
      exact Option.some.inj this
    refine ⟨r, ?_, ?_, h4, h5, ?_⟩
    · refine Ev.step (fun k => by simp only [laws_markLockS.l0]; rfl) ?_
      refine evPos (by omega) (evPos (by omega) ?_)
      rw [e, ex, Int.toNat_natCast, rdK l i hi2]
      exact Ev.bind m1 h2
    · refine Ev.step (fun k => by simp only [laws_heldLockS.l0]; rfl) ?_
      refine evPos (by omega) (evPos (by omega) ?_)
      rw [e, ex, rdK r.2 i hr, hv]
      exact evPos rfl (Ev.bind m2 (evNeg (by omega) h3))
    · intro j hj
      rw [h6 j (by omega), List.getElem?_set_ne (by omega)]
/-- Only that the marks come to an end. -/
theorem lockMark_only (l : List S45) (hl : shortK l) : ∃ r : Int × List S45, Ev (fun k => laws_markLockS.f k l 1) r ∧ 0 ≤ r.1 := by
  have hl1 := hl.1
  obtain ⟨r, h1, _, h3, _⟩ := lockMarks_loop l.length 0 l 1 hl (by omega) (by omega) (by omega) (by omega)
  exact ⟨r, h1, h3⟩
theorem lockMarks_ev (l : List S45) (hl : shortK l) : ∃ r : Int × List S45, Ev (fun k => laws_markLockS.f k l 1) r ∧ Ev (fun k => laws_heldLockS.f k r.2 1) r.1 ∧ 0 ≤ r.1 := by
  have hl1 := hl.1
  obtain ⟨r, h1, h2, h3, _⟩ := lockMarks_loop l.length 0 l 1 hl (by omega) (by omega) (by omega) (by omega)
  exact ⟨r, h1, h2, h3⟩
theorem less_loop (x : List Int) (hx : x.length ≤ 1048576) (v : Int) : ∀ (d i : Nat) (y : List Int), x.length - i = d → i ≤ x.length → y.length ≤ i → Ev (fun k => spec_l7Less.l0 k x v y (i : Int)) (y ++ (x.drop i).filter (fun a => a != v)) := by
  intro d
  induction d with
  | zero =>
    intro i y hd hi hy
    refine Ev.step (fun k => by simp only [spec_l7Less.l0]; rfl) ?_
    refine evNeg (by omega) ?_
    rw [List.drop_eq_nil_of_le (by omega)]
    exact evEq _ (fun _ => rfl) (by simp)
  | succ d ih =>
    intro i y hd hi hy
    have hi2 : i < x.length := by omega
    have e : wrap64 ((i : Int) + 1) = ((i + 1 : Nat) : Int) := by rw [wr _ (by omega) (by omega)]; omega
    refine Ev.step (fun k => by simp only [spec_l7Less.l0]; rfl) ?_
    refine evPos (by omega) (evPos (by omega) ?_)
    rw [rd_at x i hi2, e, List.drop_eq_getElem_cons hi2, List.filter_cons]
    by_cases h : x[i] = v
    · rw [if_neg (by simp [h])]
      exact evPos h (ih (i + 1) y (by omega) (by omega) (by omega))
    · rw [if_pos (by simp [h])]
      refine evNeg h (evPos (by omega) ?_)
      have := ih (i + 1) (y ++ [x[i]]) (by omega) (by omega) (by rw [List.length_append, List.length_singleton]; omega)
      rw [List.append_assoc] at this
      exact this
theorem less_ev (x : List Int) (hx : x.length ≤ 1048576) (hn : x.Nodup) (v : Int) : Ev (fun k => spec_l7Less.f k x v) (x.erase v) := by
  have := less_loop x hx v x.length 0 [] (by omega) (by omega) (by simp)
  rw [List.nil_append, List.drop_zero, ← List.Nodup.erase_eq_filter hn] at this
  exact this
theorem lk_nodup (l : List S45) (h : lkOk l) (x : S45) (hx : x ∈ l) : (x.f1).Nodup := by
  rw [nodup_count]
  intro w hw
  have a := count_part w x l hx
  have b := ((h.2 x hx).2 w hw).2.1
  have c := List.count_pos_iff.2 hw
  omega
theorem sCopy_loop (l : List S45) (hl : shortK l) : ∀ (d i : Nat), l.length - i = d → i ≤ l.length → Ev (fun k => spec_l7Copy.l0 k l (l.take i) (i : Int)) l := by
  have hl1 := hl.1
  intro d
  induction d with
  | zero =>
    intro i hd hi
    refine Ev.step (fun k => by simp only [spec_l7Copy.l0]; rfl) ?_
    refine evNeg (by omega) ?_
    rw [List.take_of_length_le (by omega)]
    exact Ev.now _
  | succ d ih =>
    intro i hd hi
    have hi2 : i < l.length := by omega
    have hf := hl.2 l[i] (List.getElem_mem hi2)
    have e : wrap64 ((i : Int) + 1) = ((i + 1 : Nat) : Int) := by rw [wr _ (by omega) (by omega)]; omega
    refine Ev.step (fun k => by simp only [spec_l7Copy.l0, Option.bind_some]; rfl) ?_
    refine evPos (by omega) (evPos (by omega) ?_)
    rw [rdK l i hi2, e]
    refine evPos (by simp only [List.length_nil]; omega) (evPos (by rw [List.length_take]; omega) ?_)
    have := ih (i + 1) (by omega) (by omega)
    rw [List.take_succ_eq_append_getElem hi2] at this
    exact this
theorem sCopy_ev (l : List S45) (hl : shortK l) : Ev (fun k => spec_l7Copy.f k l) l := sCopy_loop l hl l.length 0 (by omega) (by omega)
theorem sLk_ev (l : List S45) (hl : shortK l) : (lkOk l → Ev (fun k => spec_LocksOk.f k l) true) ∧ (¬ lkOk l → Ev (fun k => spec_LocksOk.f k l) false) := by
  obtain ⟨b, hb, _, hq⟩ := locks_ev l hl
  constructor
  · intro h
    rw [hq.2 h] at hb
    exact hb
  · intro h
    rw [Bool.eq_false_iff.2 fun z => h (hq.1 z)] at hb
    exact hb
theorem sFree_ev (l : List S45) (hl : shortK l) (i no nx : Int) (r : List S45 × Bool) (hr : FreeR l i no nx r) : Ev (fun k => spec_LockFree.f k l i no nx) r := by
  have hl1 := hl.1
  unfold spec_LockFree.f
  have hk : lkOk l → Ev (fun k => spec_LocksOk.f k l) true := (sLk_ev l hl).1
  have e1 : wrap64 ((l.length : Int) - 1) = (l.length : Int) - 1 := wr _ (by omega) (by omega)
  have bad : Ev (fun k => spec_LockFree.j0 k l i nx l true) (l, false) := by
    refine Ev.step (fun k => by simp only [spec_LockFree.j0]; rfl) ?_
    exact evPos trivial (Ev.now _)
  simp only [sin_eq, Option.bind_some, decide_eq_true_eq]
  rcases hr with ⟨z, rfl⟩ | ⟨h, z, rfl⟩ | ⟨h, h3, j, hj, rfl, h4, z⟩
  · exact Ev.bind ((sLk_ev l hl).2 z) (evNeg (by decide) (Ev.now _))
  · refine Ev.bind (hk h) (evPos rfl (Ev.bind (sCopy_ev l hl) ?_))
    rw [e1]
    by_cases g1 : 0 ≤ i ∧ i ≤ (l.length : Int) - 1
    · refine evPos g1 ?_
      by_cases g2 : no = 0
      · exact evPos g2 bad
      · refine evNeg g2 (evPos g1.1 (evPos (by omega) ?_))
        rcases z with z | z | ⟨j, hj, rfl, z⟩
        · exact absurd ⟨g1.1, by omega⟩ z
        · exact absurd z g2
        · rw [rdK l j hj]
          by_cases g3 : (l[j]).f0 = no
          · have z := z.resolve_left (fun x => x g3)
            rw [show ((l[j]).f0 != no) = false by simp [g3]]
            refine Ev.step (fun k => by simp only [spec_LockFree.j0]; rfl) ?_
            refine evNeg (by decide) (evPos (by omega) (evPos (by omega) ?_))
            rw [rdK l j hj]
            have hw := lk_len l h _ (List.getElem_mem hj)
            by_cases g4 : (l[j]).f1 = []
            · have hz : nx ≠ 0 := by
                rcases z.2 with q | q
                · exact q
                · exact absurd g4 q
              exact evPos (by rw [g4]; rfl) (evNeg hz (Ev.now _))
            · have hp := List.length_pos_iff.2 g4
              refine evNeg (by omega) (evPos (by omega) (Ev.bind (hasE_ev _ (by omega) nx) ?_))
              exact evNeg (by rw [decide_eq_true_eq]; exact z.1) (Ev.now _)
          · rw [show ((l[j]).f0 != no) = true by simp [g3]]
            exact bad
    · exact evNeg g1 bad
  · refine Ev.bind (hk h) (evPos rfl (Ev.bind (sCopy_ev l hl) ?_))
    rw [e1]
    refine evPos (by omega) (evNeg h3 (evPos (by omega) (evPos (by omega) ?_)))
    rw [rdK l j hj, show ((l[j]).f0 != no) = false by simp [h4]]
    refine Ev.step (fun k => by simp only [spec_LockFree.j0]; rfl) ?_
    refine evNeg (by decide) (evPos (by omega) (evPos (by omega) ?_))
    rw [rdK l j hj]
    have hw := lk_len l h _ (List.getElem_mem hj)
    have hs := less_ev (l[j]).f1 (by omega) (lk_nodup l h _ (List.getElem_mem hj)) nx
    rcases z with ⟨h5, h6, rfl⟩ | ⟨h5, rfl⟩
    · refine evPos (by rw [h6]; rfl) (evPos h5 (evNeg (by rw [h6]; simp) (Ev.bind hs (evPos (by omega) ?_))))
      rw [set_toNat]
      simp only [h6, List.erase_nil]
      exact Ev.now _
    · have hp := List.length_pos_of_mem h5
      refine evNeg (by omega) (evPos (by omega) (Ev.bind (hasE_ev _ (by omega) nx) (evPos (decide_eq_true h5) (Ev.bind hs (evPos (by omega) ?_)))))
      rw [set_toNat]
      exact Ev.now _
def toK (x : S41) : S45 := ⟨x.f0, x.f1⟩
theorem shortK_map (l : List S41) (hl : l.length ≤ 1048576 ∧ ∀ x ∈ l, x.f1.length ≤ 1048576) : shortK (l.map toK) := by
  refine ⟨by rw [List.length_map]; exact hl.1, fun x hx => ?_⟩
  obtain ⟨y, hy, rfl⟩ := List.mem_map.1 hx
  exact hl.2 y hy
theorem rdLK (l : List S41) (i : Nat) (h : i < l.length) : rd_T41 l (i : Int) = l[i] := by
  unfold rd_T41
  rw [Int.toNat_natCast, List.getD_eq_getElem?_getD, List.getElem?_eq_getElem h, Option.getD_some]
theorem szLocks_loop (l : List S41) (hl : l.length ≤ 1048576) : ∀ (d i : Nat) (n : Int), l.length - i = d → i ≤ l.length → 0 ≤ n → n ≤ 1048576 → (∀ x ∈ l, x.f1.length ≤ maxLen) → ∃ r, Ev (fun k => laws_szLockS.l0 k l n (i : Int)) r ∧ (r < 0 ∨ ∀ x ∈ l.drop i, x.f1.length ≤ 1048576) := by
  intro d
  induction d with
  | zero =>
    intro i n hd hi h0 h1 hm
    refine ⟨n, ?_, .inr (by rw [List.drop_eq_nil_of_le (by omega)]; simp)⟩
    refine Ev.step (fun k => by simp only [laws_szLockS.l0]; rfl) ?_
    exact evNeg (by omega) (Ev.now _)
  | succ d ih =>
    intro i n hd hi h0 h1 hm
    have hi2 : i < l.length := by omega
    have hx := hm l[i] (List.getElem_mem hi2)
    unfold maxLen at hx
    have e : wrap64 ((i : Int) + 1) = ((i + 1 : Nat) : Int) := by rw [wr _ (by omega) (by omega)]; omega
    have hz : ∃ q, laws_szLock.f (l[i]).f0 (l[i]).f1 n = some q ∧ (q < 0 ∨ (0 ≤ q ∧ q ≤ n ∧ (l[i]).f1.length ≤ 1048576)) := by
      unfold laws_szLock.f laws_szIntS.f
      rw [wr _ (by omega) (by omega)]
      by_cases g : n - ((l[i]).f1.length : Int) < 0
      · rw [if_pos g]
        exact ⟨-1, by simp, .inl (by omega)⟩
      · rw [if_neg g]
        exact ⟨_, by rw [Option.bind_some, if_neg g], .inr ⟨by omega, by omega, by omega⟩⟩
    obtain ⟨q, hq, hc⟩ := hz
    by_cases hn : q < 0
    · refine ⟨-1, ?_, .inl (by omega)⟩
      refine Ev.step (fun k => by simp only [laws_szLockS.l0]; rfl) ?_
      refine evPos (by omega) (evPos (by omega) ?_)
      rw [rdLK l i hi2, hq]
      simp only [Option.bind_some]
      exact evPos hn (Ev.now _)
    · obtain ⟨c0, c1, c2⟩ := hc.resolve_left hn
      obtain ⟨r, hr, g⟩ := ih (i + 1) q (by omega) (by omega) c0 (by omega) hm
      refine ⟨r, ?_, ?_⟩
      · refine Ev.step (fun k => by simp only [laws_szLockS.l0]; rfl) ?_
        refine evPos (by omega) (evPos (by omega) ?_)
        rw [rdLK l i hi2, hq, e]
        simp only [Option.bind_some]
        exact evNeg hn hr
      · rcases g with g | g
        · exact .inl g
        · refine .inr fun x hx => ?_
          rw [List.drop_eq_getElem_cons hi2] at hx
          rcases List.mem_cons.1 hx with rfl | hx
          · exact c2
          · exact g x hx
theorem szLocks (l : List S41) (hm : l.length ≤ maxLen) (hx : ∀ x ∈ l, x.f1.length ≤ maxLen) : ∃ r, Ev (fun k => laws_szLockS.f k l 1048576) r ∧ (r < 0 ∨ (l.length ≤ 1048576 ∧ ∀ x ∈ l, x.f1.length ≤ 1048576)) := by
  unfold maxLen at hm
  by_cases h : 1048576 - (l.length : Int) < 0
  · refine ⟨-1, ?_, .inl (by omega)⟩
    unfold laws_szLockS.f
    rw [wr _ (by omega) (by omega)]
    exact evPos h (Ev.now _)
  · obtain ⟨r, e, g⟩ := szLocks_loop l (by omega) l.length 0 (1048576 - (l.length : Int)) (by omega) (by omega) (by omega) (by omega) hx
    refine ⟨r, ?_, ?_⟩
    · unfold laws_szLockS.f
      rw [wr _ (by omega) (by omega)]
      exact evNeg h e
    · rcases g with g | g
      · exact .inl g
      · exact .inr ⟨by omega, fun x hx => g x (by simpa using hx)⟩
theorem full {α : Type} (l : List α) (d : α) (i : Nat) (h : l.length ≤ i) : l.take i ++ List.replicate (l.length - i) d = l := by
  rw [List.take_of_length_le h, show l.length - i = 0 by omega, List.replicate_zero, List.append_nil]
theorem set_step {α : Type} (l : List α) (d : α) (i : Nat) (h : i < l.length) : (l.take i ++ List.replicate (l.length - i) d).set i l[i] = l.take (i + 1) ++ List.replicate (l.length - (i + 1)) d := by
  have hl : (l.take i).length = i := by rw [List.length_take]; omega
  rw [List.set_append_right _ _ (by omega), hl, Nat.sub_self, show l.length - i = (l.length - (i + 1)) + 1 by omega, List.replicate_succ, List.set_cons_zero, List.take_succ_eq_append_getElem h, List.append_assoc]
  rfl
theorem map_step {α β : Type} (f : α → β) (l : List α) (d : β) (i : Nat) (h : i < l.length) : ((l.map f).take i ++ List.replicate (l.length - i) d).set i (f l[i]) = (l.map f).take (i + 1) ++ List.replicate (l.length - (i + 1)) d := by
  have := set_step (l.map f) d i (by simpa using h)
  simpa using this
theorem toInts_loop (l : List Int) (hl : l.length ≤ maxLen) (d : Nat) : ∀ (k i : Nat), l.length - i ≤ d → d < k → laws_toIntS.l0 k l (l.take i ++ List.replicate (l.length - i) 0) (i : Int) = some l := by
  unfold maxLen at hl
  induction d with
  | zero =>
    intro k i hd hk
    obtain ⟨k, rfl⟩ : ∃ m, k = m + 1 := ⟨k - 1, by omega⟩
    simp only [laws_toIntS.l0]
    rw [if_neg (by omega), full l 0 i (by omega)]
  | succ d ih =>
    intro k i hd hk
    obtain ⟨k, rfl⟩ : ∃ m, k = m + 1 := ⟨k - 1, by omega⟩
    simp only [laws_toIntS.l0]
    by_cases h : i < l.length
    · rw [if_pos (by omega), if_pos (by omega), if_pos (by rw [List.length_append, List.length_take, List.length_replicate]; omega), rd_at l i h, Int.toNat_natCast, set_step l 0 i h, wr _ (by omega) (by omega)]
      exact ih k (i + 1) (by omega) (by omega)
    · rw [if_neg (by omega), full l 0 i (by omega)]
theorem toInts_ev (l : List Int) (hl : l.length ≤ 35184372088832) : Ev (fun k => laws_toIntS.f k l) l := by
  refine Ev.of (fun k => laws_toIntS.mono l k) (k := l.length + 1) ?_
  unfold laws_toIntS.f
  rw [if_pos (by omega), if_pos (by simp only [Int.toNat_natCast]; exact hl), Int.toNat_natCast]
  have := toInts_loop l (by unfold maxLen; omega) l.length (l.length + 1) 0 (by omega) (by omega)
  simpa using this
theorem toLocks_loop (l : List S41) (hl : l.length ≤ 1048576 ∧ ∀ x ∈ l, x.f1.length ≤ 1048576) : ∀ (d i : Nat), l.length - i = d → i ≤ l.length → Ev (fun k => laws_toLockS.l0 k l ((l.map toK).take i ++ List.replicate (l.length - i) z45) (i : Int)) (l.map toK) := by
  intro d
  induction d with
  | zero =>
    intro i hd hi
    refine Ev.step (fun k => by simp only [laws_toLockS.l0]; rfl) ?_
    refine evNeg (by omega) ?_
    have e := full (l.map toK) z45 i (by rw [List.length_map]; omega)
    rw [List.length_map] at e
    rw [e]
    exact Ev.now _
  | succ d ih =>
    intro i hd hi
    have hi2 : i < l.length := by omega
    have e : wrap64 ((i : Int) + 1) = ((i + 1 : Nat) : Int) := by rw [wr _ (by omega) (by omega)]; omega
    refine Ev.step (fun k => by simp only [laws_toLockS.l0]; rfl) ?_
    refine evPos (by omega) (evPos (by omega) ?_)
    rw [rdLK l i hi2, e]
    have hq := toInts_ev (l[i]).f1 (by have := hl.2 l[i] (List.getElem_mem hi2); omega)
    have hk : Ev (fun k => laws_toLock.f k (l[i]).f0 (l[i]).f1) ((l[i]).f0, (l[i]).f1) := by
      unfold laws_toLock.f
      exact Ev.bind hq (Ev.now _)
    refine Ev.bind hk ?_
    · refine evPos (by rw [List.length_append, List.length_take, List.length_replicate, List.length_map]; omega) ?_
      rw [Int.toNat_natCast]
      have g := map_step toK l z45 i hi2
      unfold toK at g ⊢
      rw [g]
      exact ih (i + 1) (by omega) (by omega)
theorem toLocks_ev (l : List S41) (hl : l.length ≤ 1048576 ∧ ∀ x ∈ l, x.f1.length ≤ 1048576) : Ev (fun k => laws_toLockS.f k l) (l.map toK) := by
  have := toLocks_loop l hl l.length 0 (by omega) (by omega)
  unfold laws_toLockS.f
  refine evPos (by omega) (evPos (by simp only [Int.toNat_natCast]; omega) ?_)
  rw [Int.toNat_natCast]
  simpa using this
theorem FnExactLockFree : laws_FnExactLockFree.Pure := by
  intro l i no nx hm hok _ _ _
  refine Ev.rounds (r := true) ?_
  unfold laws_FnExactLockFree.f
  obtain ⟨r, e, hr⟩ := szLocks l hm (fun x hx => (hok x hx).2.1)
  refine Ev.bind e ?_
  by_cases h : r < 0
  · exact evPos h (Ev.now _)
  · refine evNeg h ?_
    have hl := hr.resolve_left h
    have ht := toLocks_ev l hl
    have hs := shortK_map l hl
    generalize l.map toK = L at ht hs
    refine Ev.bind ht ?_
    obtain ⟨o, ho⟩ := free_ex L i no nx
    have h3 : shortK o.1 := by
      rcases ho with ⟨_, rfl⟩ | ⟨_, _, rfl⟩ | ⟨hk, _, j, hj, _, _, ⟨_, _, rfl⟩ | ⟨_, rfl⟩⟩
      · exact ⟨by simp, by simp⟩
      · exact hs
      · refine ⟨by rw [List.length_set]; exact hs.1, fun y hy => ?_⟩
        rcases List.mem_or_eq_of_mem_set hy with hy | hy
        · exact hs.2 y hy
        · rw [hy]
          show (L[j]).f1.length ≤ 1048576
          exact hs.2 _ (List.getElem_mem hj)
      · refine ⟨by rw [List.length_set]; exact hs.1, fun y hy => ?_⟩
        rcases List.mem_or_eq_of_mem_set hy with hy | hy
        · exact hs.2 y hy
        · rw [hy]
          show ((L[j]).f1.erase nx).length ≤ 1048576
          exact Nat.le_trans List.length_erase_le (hs.2 _ (List.getElem_mem hj))
    obtain ⟨m, m1, m2⟩ := lockMark_only L hs
    obtain ⟨n, n1, n2, n3⟩ := lockMarks_ev o.1 h3
    refine Ev.bind (sFree_ev L hs i no nx o ho) (Ev.bind (iFree_ev L hs i no nx o ho) (Ev.bind (eqLocks_ev o.1 h3) (Ev.bind (eqLocks_ev L hs) (Ev.bind m1 (Ev.bind n1 (Ev.bind n2 ?_))))))
    exact evPos ⟨⟨⟨rfl, rfl⟩, rfl⟩, by omega, by omega, rfl⟩ (Ev.now _)

end Go.Proofs.Ythabcadkaocciaa.Pure
