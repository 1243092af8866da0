/- The pure statement of FnExactTaskAt: at all arguments the program's TaskAt and the reference's agree, as plain functions over numbers and lists. Conditions: those of the statement (numbers of 64 bits, lists that lie in memory). -/
import Derived.Test.YtnokdjkkgcpbdacPrint49
set_option linter.unusedVariables false
set_option linter.unusedSimpArgs false
namespace Go.Proofs.Ytnokdjkkgcpbdac.Pure
open Go.RowKit Go.Proofs.Ytnokdjkkgcpbdac.Print Go.Proofs.YtnokdjkkgcpbdacW.PrintWords Go.Proofs.YtnokdjkkgcpbdacW.PrintLast Go.Proofs.YtnokdjkkgcpbdacW.PrintMore Go.Proofs.Ytnokdjkkgcpbdac.Base

theorem eqTask_refl (a0 a1 a2 a3 : Int) (a4 : Bool) (a5 a6 a7 a8 a9 a10 a11 a12 a13 : Int) : laws_eqTask.f a0 a1 a2 a3 a4 a5 a6 a7 a8 a9 a10 a11 a12 a13 a0 a1 a2 a3 a4 a5 a6 a7 a8 a9 a10 a11 a12 a13 = some true := by
  unfold laws_eqTask.f
  simp
theorem eqTasks_loop (l : List S25) (hl : l.length ≤ 1048576000) : ∀ (k i : Nat), l.length - i < k → laws_eqTaskS.l0 k l l (i : Int) = some true := by
  intro k
  induction k with
  | zero => intro i h; omega
  | succ k ih =>
    intro i h
    simp only [laws_eqTaskS.l0, eqTask_refl, Option.bind_some]
    by_cases hi : i < l.length
    · rw [if_pos (by omega), if_pos (by omega), if_pos (by omega), if_pos trivial, wr _ (by omega) (by omega)]
      exact ih (i + 1) (by omega)
    · rw [if_neg (by omega)]
theorem eqTasks_ev (l : List S25) (hl : l.length ≤ 1048576000) : Ev (fun k => laws_eqTaskS.f k l l) true := by
  refine Ev.of (fun k => laws_eqTaskS.mono l l k) (k := l.length + 1) ?_
  unfold laws_eqTaskS.f
  rw [if_pos rfl]
  exact eqTasks_loop l hl (l.length + 1) 0 (by omega)
/-! Lists of tasks: what is read of them. -/
theorem rdT (l : List S25) (i : Nat) (h : i < l.length) : rd_T25 l (i : Int) = l[i] := by
  unfold rd_T25
  rw [Int.toNat_natCast, List.getD_eq_getElem?_getD, List.getElem?_eq_getElem h, Option.getD_some]
theorem sTaskAt_loop (l : List S25) (no : Int) (hl : l.length ≤ 1048576000) : ∀ (k i : Nat), l.length - i < k → spec_TaskAt.l0 k l no (i : Int) = some (idxF (fun t => t.f0 == no) (l.drop i) (i : Int)) := by
  intro k
  induction k with
  | zero => intro i h; omega
  | succ k ih =>
    intro i h
    simp only [spec_TaskAt.l0]
    by_cases hi : i < l.length
    · rw [if_pos (by omega), if_pos (by omega), rdT l i hi, wr ((i : Int) + 1) (by omega) (by omega), List.drop_eq_getElem_cons hi, idxF]
      by_cases e : (l[i]).f0 = no
      · rw [if_pos e, if_pos (by simp [e])]
      · rw [if_neg e, if_neg (by simp [e])]
        exact ih (i + 1) (by omega)
    · rw [if_neg (by omega), List.drop_eq_nil_of_le (by omega), idxF]
theorem sTaskAt_ev (l : List S25) (hl : l.length ≤ 1048576000) (no : Int) : Ev (fun k => spec_TaskAt.f k l no) (idxF (fun t => t.f0 == no) l 0) := by
  refine Ev.of (fun k => spec_TaskAt.mono l no k) (k := l.length + 1) ?_
  unfold spec_TaskAt.f
  exact sTaskAt_loop l no hl (l.length + 1) 0 (by omega)
theorem szTasks (l : List S63) (hm : l.length ≤ maxLen) : (l.length ≤ 1048576 ∧ laws_szTaskS.f l 1048576 = some (1048576 - (l.length : Int))) ∨ laws_szTaskS.f l 1048576 = some (-1) := by
  unfold laws_szTaskS.f
  unfold maxLen at hm
  rw [wr _ (by omega) (by omega)]
  by_cases h : 1048576 - (l.length : Int) < 0
  · exact .inr (if_pos h)
  · exact .inl ⟨by omega, if_neg h⟩
def toT (x : S63) : S25 := ⟨x.f0, x.f1, x.f2, x.f3, x.f4, x.f5, x.f6, x.f7, x.f8, x.f9, x.f10, x.f11, x.f12, x.f13⟩
theorem full {α : Type} (l : List α) (d : α) (i : Nat) (h : l.length ≤ i) : l.take i ++ List.replicate (l.length - i) d = l := by
  rw [List.take_of_length_le h, show l.length - i = 0 by omega, List.replicate_zero, List.append_nil]
theorem set_step {α : Type} (l : List α) (d : α) (i : Nat) (h : i < l.length) : (l.take i ++ List.replicate (l.length - i) d).set i l[i] = l.take (i + 1) ++ List.replicate (l.length - (i + 1)) d := by
  have hl : (l.take i).length = i := by rw [List.length_take]; omega
  rw [List.set_append_right _ _ (by omega), hl, Nat.sub_self, show l.length - i = (l.length - (i + 1)) + 1 by omega, List.replicate_succ, List.set_cons_zero, List.take_succ_eq_append_getElem h, List.append_assoc]
  rfl
theorem map_step {α β : Type} (f : α → β) (l : List α) (d : β) (i : Nat) (h : i < l.length) : ((l.map f).take i ++ List.replicate (l.length - i) d).set i (f l[i]) = (l.map f).take (i + 1) ++ List.replicate (l.length - (i + 1)) d := by
  have := set_step (l.map f) d i (by simpa using h)
  simpa using this
theorem rdLT (l : List S63) (i : Nat) (h : i < l.length) : rd_T63 l (i : Int) = l[i] := by
  unfold rd_T63
  rw [Int.toNat_natCast, List.getD_eq_getElem?_getD, List.getElem?_eq_getElem h, Option.getD_some]
theorem toTasks_loop (l : List S63) (hl : l.length ≤ 1048576) : ∀ (k i : Nat), l.length - i < k → laws_toTaskS.l0 k l ((l.map toT).take i ++ List.replicate (l.length - i) z25) (i : Int) = some (l.map toT) := by
  intro k
  induction k with
  | zero => intro i h; omega
  | succ k ih =>
    intro i h
    simp only [laws_toTaskS.l0, laws_toTask.f, Option.bind_some]
    by_cases hi : i < l.length
    · rw [if_pos (by omega), if_pos (by omega), if_pos (by rw [List.length_append, List.length_take, List.length_replicate, List.length_map]; omega), rdLT l i hi, Int.toNat_natCast, wr _ (by omega) (by omega)]
      have e := map_step toT l z25 i hi
      unfold toT at e ⊢
      rw [e]
      exact ih (i + 1) (by omega)
    · rw [if_neg (by omega)]
      have e := full (l.map toT) z25 i (by rw [List.length_map]; omega)
      rw [List.length_map] at e
      rw [e]
theorem toTasks_ev (l : List S63) (hl : l.length ≤ 1048576) : Ev (fun k => laws_toTaskS.f k l) (l.map toT) := by
  refine Ev.of (fun k => laws_toTaskS.mono l k) (k := l.length + 1) ?_
  unfold laws_toTaskS.f
  rw [if_pos (by omega), if_pos (by simp only [Int.toNat_natCast]; omega), Int.toNat_natCast]
  have := toTasks_loop l hl (l.length + 1) 0 (by omega)
  simpa using this
theorem FnExactTaskAt : laws_FnExactTaskAt.Pure := by
  intro l no hm _ _
  refine Ev.rounds (r := true) ?_
  unfold laws_FnExactTaskAt.f
  rcases szTasks l hm with ⟨hl, e⟩ | e
  · rw [e]
    simp only [Option.bind_some]
    refine evNeg (by omega) ?_
    have ht := toTasks_ev l hl
    have hl2 : (l.map toT).length ≤ 1048576000 := by rw [List.length_map]; omega
    refine Ev.bind ht (Ev.bind (sTaskAt_ev _ hl2 no) (Ev.bind ht ?_))
    simp only [impl_TaskAt.f, Option.bind_some]
    refine evPos trivial (Ev.bind ht (Ev.bind (eqTasks_ev _ hl2) ?_))
    simp only [if_true]
    exact Ev.now _
  · rw [e]
    simp only [Option.bind_some]
    exact evPos (by omega) (Ev.now _)

end Go.Proofs.Ytnokdjkkgcpbdac.Pure
