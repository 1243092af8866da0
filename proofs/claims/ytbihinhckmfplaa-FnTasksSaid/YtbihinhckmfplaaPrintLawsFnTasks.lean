/- Go functions as plain Lean functions, and that the Go code answers just as these, wherever they answer. Conditions: those of each theorem. Written by a program of this session (wip/patch.py). -/
import Derived.Test.YtbihinhckmfplaaPrint0
import Derived.Test.YtbihinhckmfplaaPrintEq
import Derived.Test.YtbihinhckmfplaaPrintImplTaskOk0
import Derived.Test.YtbihinhckmfplaaPrintImplTaskPut
import Derived.Test.YtbihinhckmfplaaPrintImplTasksOk
import Derived.Test.YtbihinhckmfplaaPrintLawsBig
import Derived.Test.YtbihinhckmfplaaPrintSpecL3DrawList
import Derived.Test.YtbihinhckmfplaaPrintSpecTaskOk0
import Derived.Test.YtbihinhckmfplaaPrintSpecTaskPut
import Derived.Test.YtbihinhckmfplaaPrintSpecTasksOk
namespace Go.Proofs.Ytbihinhckmfplaa.Print
open Go.RowKit Go.Proofs.Ytbihinhckmfplaa.Base Go.Proofs.YtbihinhckmfplaaW.PrintWords Go.Proofs.YtbihinhckmfplaaW.PrintLast Go.Proofs.YtbihinhckmfplaaW.PrintMore
attribute [local go_sem] max2_int min2_int max_two min_two max_three min_three max_four min_four   -- for this text's walks alone
set_option linter.unusedVariables false
set_option linter.unusedSimpArgs false

attribute [local go_sem high] eqA30
/-! ### laws_FnTasks: function 4 -/
mutual
def laws_FnTasks.j0 : Nat → List (S30) → List (S30) → Bool → Bool → Int → Int → Int → Int → Bool → Int → Int → Int → Int → Int → Int → Int → Int → Int → Option (Bool)
  | 0, _, _, _, _, _, _, _, _, _, _, _, _, _, _, _, _, _, _ => none
  | k + 1, x3, x5, x6, x47, x120000, x120001, x120002, x120003, x120004, x120005, x120006, x120007, x120008, x120009, x120010, x120011, x120012, x120013 => if x47 = true then (some false) else (if x6 = true then ((impl_TaskAt.f x5 x120000).bind fun t132 => (if t132 < 0 then (laws_FnTasks.j1 k x3 x5 true) else (if 0 ≤ t132 then (if t132 < (x5.length : Int) then (if (!(((rd_T30 x5 t132).f0) == x120000) || (!(((rd_T30 x5 t132).f1) == x120001) || (!(((rd_T30 x5 t132).f2) == x120002) || (!(((rd_T30 x5 t132).f3) == x120003) || (!(((rd_T30 x5 t132).f4) == x120004) || (!(((rd_T30 x5 t132).f5) == x120005) || (!(((rd_T30 x5 t132).f6) == x120006) || (!(((rd_T30 x5 t132).f7) == x120007) || (!(((rd_T30 x5 t132).f8) == x120008) || (!(((rd_T30 x5 t132).f9) == x120009) || (!(((rd_T30 x5 t132).f10) == x120010) || (!(((rd_T30 x5 t132).f11) == x120011) || (!(((rd_T30 x5 t132).f12) == x120012) || (!(((rd_T30 x5 t132).f13) == x120013))))))))))))))) = true then (laws_FnTasks.j1 k x3 x5 true) else ((impl_TaskAt.f x3 x120000).bind fun t134 => (laws_FnTasks.j1 k x3 x5 (decide (t134 ≥ 0))))) else (none)) else (none)))) else (if (x5.length : Int) = (x3.length : Int) then (some true) else (some ((x5.length : Int) == 0))))
def laws_FnTasks.j1 : Nat → List (S30) → List (S30) → Bool → Option (Bool)
  | 0, _, _, _ => none
  | k + 1, x3, x5, x80 => if x80 = true then (some false) else (laws_FnTasks.l0 k x3 x5 0)
def laws_FnTasks.l0 : Nat → List (S30) → List (S30) → Int → Option (Bool)
  | 0, _, _, _ => none
  | k + 1, x3, x5, x10 => if x10 < (x3.length : Int) then (if 0 ≤ x10 then ((impl_TaskAt.f x5 ((rd_T30 x3 x10).f0)).bind fun t136 => (if t136 < 0 then (laws_FnTasks.j3 k x3 x5 x10 true) else (if 0 ≤ t136 then (if t136 < (x5.length : Int) then (laws_FnTasks.j3 k x3 x5 x10 (!(((rd_T30 x5 t136).f0) == ((rd_T30 x3 x10).f0)) || (!(((rd_T30 x5 t136).f1) == ((rd_T30 x3 x10).f1)) || (!(((rd_T30 x5 t136).f2) == ((rd_T30 x3 x10).f2)) || (!(((rd_T30 x5 t136).f3) == ((rd_T30 x3 x10).f3)) || (!(((rd_T30 x5 t136).f4) == ((rd_T30 x3 x10).f4)) || (!(((rd_T30 x5 t136).f5) == ((rd_T30 x3 x10).f5)) || (!(((rd_T30 x5 t136).f6) == ((rd_T30 x3 x10).f6)) || (!(((rd_T30 x5 t136).f7) == ((rd_T30 x3 x10).f7)) || (!(((rd_T30 x5 t136).f8) == ((rd_T30 x3 x10).f8)) || (!(((rd_T30 x5 t136).f9) == ((rd_T30 x3 x10).f9)) || (!(((rd_T30 x5 t136).f10) == ((rd_T30 x3 x10).f10)) || (!(((rd_T30 x5 t136).f11) == ((rd_T30 x3 x10).f11)) || (!(((rd_T30 x5 t136).f12) == ((rd_T30 x3 x10).f12)) || (!(((rd_T30 x5 t136).f13) == ((rd_T30 x3 x10).f13))))))))))))))))) else (none)) else (none)))) else (none)) else ((impl_TasksOk.f k x5).bind fun t139 => (if t139 = true then (some ((x5.length : Int) == (wrap64 ((x3.length : Int) + 1)))) else (some false)))
def laws_FnTasks.j3 : Nat → List (S30) → List (S30) → Int → Bool → Option (Bool)
  | 0, _, _, _, _ => none
  | k + 1, x3, x5, x10, x106 => if x106 = true then (some false) else (laws_FnTasks.l0 k x3 x5 (wrap64 (x10 + 1)))
end
def laws_FnTasks.f (k : Nat) (l0 : List Int) : Option (Bool) := (laws_big.f l0).bind fun t101 => (if t101 = true then (some true) else ((spec_DrawTaskPut.f k l0).bind fun bt102 => ((impl_TaskPut.f k bt102.1 bt102.2.1 bt102.2.2.1 bt102.2.2.2.1 bt102.2.2.2.2.1 bt102.2.2.2.2.2.1 bt102.2.2.2.2.2.2.1 bt102.2.2.2.2.2.2.2.1 bt102.2.2.2.2.2.2.2.2.1 bt102.2.2.2.2.2.2.2.2.2.1 bt102.2.2.2.2.2.2.2.2.2.2.1 bt102.2.2.2.2.2.2.2.2.2.2.2.1 bt102.2.2.2.2.2.2.2.2.2.2.2.2.1 bt102.2.2.2.2.2.2.2.2.2.2.2.2.2.1 bt102.2.2.2.2.2.2.2.2.2.2.2.2.2.2).bind fun bt120 => ((spec_TaskPut.f k bt102.1 bt102.2.1 bt102.2.2.1 bt102.2.2.2.1 bt102.2.2.2.2.1 bt102.2.2.2.2.2.1 bt102.2.2.2.2.2.2.1 bt102.2.2.2.2.2.2.2.1 bt102.2.2.2.2.2.2.2.2.1 bt102.2.2.2.2.2.2.2.2.2.1 bt102.2.2.2.2.2.2.2.2.2.2.1 bt102.2.2.2.2.2.2.2.2.2.2.2.1 bt102.2.2.2.2.2.2.2.2.2.2.2.2.1 bt102.2.2.2.2.2.2.2.2.2.2.2.2.2.1 bt102.2.2.2.2.2.2.2.2.2.2.2.2.2.2).bind fun bt124 => (if (bt120.2 != bt124.2) = true then (laws_FnTasks.j0 k bt102.1 bt120.1 bt120.2 true bt102.2.1 bt102.2.2.1 bt102.2.2.2.1 bt102.2.2.2.2.1 bt102.2.2.2.2.2.1 bt102.2.2.2.2.2.2.1 bt102.2.2.2.2.2.2.2.1 bt102.2.2.2.2.2.2.2.2.1 bt102.2.2.2.2.2.2.2.2.2.1 bt102.2.2.2.2.2.2.2.2.2.2.1 bt102.2.2.2.2.2.2.2.2.2.2.2.1 bt102.2.2.2.2.2.2.2.2.2.2.2.2.1 bt102.2.2.2.2.2.2.2.2.2.2.2.2.2.1 bt102.2.2.2.2.2.2.2.2.2.2.2.2.2.2) else ((impl_TaskOk.f bt102.2.1 bt102.2.2.1 bt102.2.2.2.1 bt102.2.2.2.2.1 bt102.2.2.2.2.2.1 bt102.2.2.2.2.2.2.1 bt102.2.2.2.2.2.2.2.1 bt102.2.2.2.2.2.2.2.2.1 bt102.2.2.2.2.2.2.2.2.2.1 bt102.2.2.2.2.2.2.2.2.2.2.1 bt102.2.2.2.2.2.2.2.2.2.2.2.1 bt102.2.2.2.2.2.2.2.2.2.2.2.2.1 bt102.2.2.2.2.2.2.2.2.2.2.2.2.2.1 bt102.2.2.2.2.2.2.2.2.2.2.2.2.2.2).bind fun t128 => ((spec_TaskOk.f bt102.2.1 bt102.2.2.1 bt102.2.2.2.1 bt102.2.2.2.2.1 bt102.2.2.2.2.2.1 bt102.2.2.2.2.2.2.1 bt102.2.2.2.2.2.2.2.1 bt102.2.2.2.2.2.2.2.2.1 bt102.2.2.2.2.2.2.2.2.2.1 bt102.2.2.2.2.2.2.2.2.2.2.1 bt102.2.2.2.2.2.2.2.2.2.2.2.1 bt102.2.2.2.2.2.2.2.2.2.2.2.2.1 bt102.2.2.2.2.2.2.2.2.2.2.2.2.2.1 bt102.2.2.2.2.2.2.2.2.2.2.2.2.2.2).bind fun t129 => (if (t128 != t129) = true then (laws_FnTasks.j0 k bt102.1 bt120.1 bt120.2 true bt102.2.1 bt102.2.2.1 bt102.2.2.2.1 bt102.2.2.2.2.1 bt102.2.2.2.2.2.1 bt102.2.2.2.2.2.2.1 bt102.2.2.2.2.2.2.2.1 bt102.2.2.2.2.2.2.2.2.1 bt102.2.2.2.2.2.2.2.2.2.1 bt102.2.2.2.2.2.2.2.2.2.2.1 bt102.2.2.2.2.2.2.2.2.2.2.2.1 bt102.2.2.2.2.2.2.2.2.2.2.2.2.1 bt102.2.2.2.2.2.2.2.2.2.2.2.2.2.1 bt102.2.2.2.2.2.2.2.2.2.2.2.2.2.2) else ((impl_TasksOk.f k bt102.1).bind fun t130 => ((spec_TasksOk.f k bt102.1).bind fun t131 => (laws_FnTasks.j0 k bt102.1 bt120.1 bt120.2 (t130 != t131) bt102.2.1 bt102.2.2.1 bt102.2.2.2.1 bt102.2.2.2.2.1 bt102.2.2.2.2.2.1 bt102.2.2.2.2.2.2.1 bt102.2.2.2.2.2.2.2.1 bt102.2.2.2.2.2.2.2.2.1 bt102.2.2.2.2.2.2.2.2.2.1 bt102.2.2.2.2.2.2.2.2.2.2.1 bt102.2.2.2.2.2.2.2.2.2.2.2.1 bt102.2.2.2.2.2.2.2.2.2.2.2.2.1 bt102.2.2.2.2.2.2.2.2.2.2.2.2.2.1 bt102.2.2.2.2.2.2.2.2.2.2.2.2.2.2)))))))))))
theorem laws_FnTasks.mono_l : ∀ k, (∀ y0 y1 y2 y3 y4 y5 y6 y7 y8 y9 y10 y11 y12 y13 y14 y15 y16 y17, LeO (laws_FnTasks.j0 k y0 y1 y2 y3 y4 y5 y6 y7 y8 y9 y10 y11 y12 y13 y14 y15 y16 y17) (laws_FnTasks.j0 (k + 1) y0 y1 y2 y3 y4 y5 y6 y7 y8 y9 y10 y11 y12 y13 y14 y15 y16 y17)) ∧ (∀ y0 y1 y2, LeO (laws_FnTasks.j1 k y0 y1 y2) (laws_FnTasks.j1 (k + 1) y0 y1 y2)) ∧ (∀ y0 y1 y2, LeO (laws_FnTasks.l0 k y0 y1 y2) (laws_FnTasks.l0 (k + 1) y0 y1 y2)) ∧ (∀ y0 y1 y2 y3, LeO (laws_FnTasks.j3 k y0 y1 y2 y3) (laws_FnTasks.j3 (k + 1) y0 y1 y2 y3))
  | 0 => ⟨fun _ _ _ _ _ _ _ _ _ _ _ _ _ _ _ _ _ _ r h => by simp [laws_FnTasks.j0] at h, fun _ _ _ r h => by simp [laws_FnTasks.j1] at h, fun _ _ _ r h => by simp [laws_FnTasks.l0] at h, fun _ _ _ _ r h => by simp [laws_FnTasks.j3] at h⟩
  | k + 1 => by
    obtain ⟨ih0, ih1, ih2, ih3⟩ := laws_FnTasks.mono_l k
    refine ⟨?_, ?_, ?_, ?_⟩
    · intro y0 y1 y2 y3 y4 y5 y6 y7 y8 y9 y10 y11 y12 y13 y14 y15 y16 y17
      unfold laws_FnTasks.j0
      repeat' first
      | (with_reducible exact ih0 _ _ _ _ _ _ _ _ _ _ _ _ _ _ _ _ _ _)
      | (with_reducible exact ih1 _ _ _)
      | (with_reducible exact ih2 _ _ _)
      | (with_reducible exact ih3 _ _ _ _)
      | (with_reducible exact impl_TaskPut.mono _ _ _ _ _ _ _ _ _ _ _ _ _ _ _ _)
      | (with_reducible exact impl_TasksOk.mono _ _)
      | (with_reducible exact spec_DrawTaskPut.mono _ _)
      | (with_reducible exact spec_TaskPut.mono _ _ _ _ _ _ _ _ _ _ _ _ _ _ _ _)
      | (with_reducible exact spec_TasksOk.mono _ _)
      | (with_reducible exact LeO.refl _)
      | (with_reducible exact LeO.none _)
      | (with_reducible refine LeO.ite ?_ ?_)
      | (with_reducible refine LeO.bind ?_ (fun _ => ?_))
      | exact ih0 _ _ _ _ _ _ _ _ _ _ _ _ _ _ _ _ _ _
      | exact ih1 _ _ _
      | exact ih2 _ _ _
      | exact ih3 _ _ _ _
      | exact impl_TaskPut.mono _ _ _ _ _ _ _ _ _ _ _ _ _ _ _ _
      | exact impl_TasksOk.mono _ _
      | exact spec_DrawTaskPut.mono _ _
      | exact spec_TaskPut.mono _ _ _ _ _ _ _ _ _ _ _ _ _ _ _ _
      | exact spec_TasksOk.mono _ _
      | exact LeO.none _
      | refine LeO.ite ?_ ?_
      | refine LeO.bind ?_ (fun _ => ?_)
    · intro y0 y1 y2
      unfold laws_FnTasks.j1
      repeat' first
      | (with_reducible exact ih0 _ _ _ _ _ _ _ _ _ _ _ _ _ _ _ _ _ _)
      | (with_reducible exact ih1 _ _ _)
      | (with_reducible exact ih2 _ _ _)
      | (with_reducible exact ih3 _ _ _ _)
      | (with_reducible exact impl_TaskPut.mono _ _ _ _ _ _ _ _ _ _ _ _ _ _ _ _)
      | (with_reducible exact impl_TasksOk.mono _ _)
      | (with_reducible exact spec_DrawTaskPut.mono _ _)
      | (with_reducible exact spec_TaskPut.mono _ _ _ _ _ _ _ _ _ _ _ _ _ _ _ _)
      | (with_reducible exact spec_TasksOk.mono _ _)
      | (with_reducible exact LeO.refl _)
      | (with_reducible exact LeO.none _)
      | (with_reducible refine LeO.ite ?_ ?_)
      | (with_reducible refine LeO.bind ?_ (fun _ => ?_))
      | exact ih0 _ _ _ _ _ _ _ _ _ _ _ _ _ _ _ _ _ _
      | exact ih1 _ _ _
      | exact ih2 _ _ _
      | exact ih3 _ _ _ _
      | exact impl_TaskPut.mono _ _ _ _ _ _ _ _ _ _ _ _ _ _ _ _
      | exact impl_TasksOk.mono _ _
      | exact spec_DrawTaskPut.mono _ _
      | exact spec_TaskPut.mono _ _ _ _ _ _ _ _ _ _ _ _ _ _ _ _
      | exact spec_TasksOk.mono _ _
      | exact LeO.none _
      | refine LeO.ite ?_ ?_
      | refine LeO.bind ?_ (fun _ => ?_)
    · intro y0 y1 y2
      unfold laws_FnTasks.l0
      repeat' first
      | (with_reducible exact ih0 _ _ _ _ _ _ _ _ _ _ _ _ _ _ _ _ _ _)
      | (with_reducible exact ih1 _ _ _)
      | (with_reducible exact ih2 _ _ _)
      | (with_reducible exact ih3 _ _ _ _)
      | (with_reducible exact impl_TaskPut.mono _ _ _ _ _ _ _ _ _ _ _ _ _ _ _ _)
      | (with_reducible exact impl_TasksOk.mono _ _)
      | (with_reducible exact spec_DrawTaskPut.mono _ _)
      | (with_reducible exact spec_TaskPut.mono _ _ _ _ _ _ _ _ _ _ _ _ _ _ _ _)
      | (with_reducible exact spec_TasksOk.mono _ _)
      | (with_reducible exact LeO.refl _)
      | (with_reducible exact LeO.none _)
      | (with_reducible refine LeO.ite ?_ ?_)
      | (with_reducible refine LeO.bind ?_ (fun _ => ?_))
      | exact ih0 _ _ _ _ _ _ _ _ _ _ _ _ _ _ _ _ _ _
      | exact ih1 _ _ _
      | exact ih2 _ _ _
      | exact ih3 _ _ _ _
      | exact impl_TaskPut.mono _ _ _ _ _ _ _ _ _ _ _ _ _ _ _ _
      | exact impl_TasksOk.mono _ _
      | exact spec_DrawTaskPut.mono _ _
      | exact spec_TaskPut.mono _ _ _ _ _ _ _ _ _ _ _ _ _ _ _ _
      | exact spec_TasksOk.mono _ _
      | exact LeO.none _
      | refine LeO.ite ?_ ?_
      | refine LeO.bind ?_ (fun _ => ?_)
    intro y0 y1 y2 y3
    unfold laws_FnTasks.j3
    repeat' first
    | (with_reducible exact ih0 _ _ _ _ _ _ _ _ _ _ _ _ _ _ _ _ _ _)
    | (with_reducible exact ih1 _ _ _)
    | (with_reducible exact ih2 _ _ _)
    | (with_reducible exact ih3 _ _ _ _)
    | (with_reducible exact impl_TaskPut.mono _ _ _ _ _ _ _ _ _ _ _ _ _ _ _ _)
    | (with_reducible exact impl_TasksOk.mono _ _)
    | (with_reducible exact spec_DrawTaskPut.mono _ _)
    | (with_reducible exact spec_TaskPut.mono _ _ _ _ _ _ _ _ _ _ _ _ _ _ _ _)
    | (with_reducible exact spec_TasksOk.mono _ _)
    | (with_reducible exact LeO.refl _)
    | (with_reducible exact LeO.none _)
    | (with_reducible refine LeO.ite ?_ ?_)
    | (with_reducible refine LeO.bind ?_ (fun _ => ?_))
    | exact ih0 _ _ _ _ _ _ _ _ _ _ _ _ _ _ _ _ _ _
    | exact ih1 _ _ _
    | exact ih2 _ _ _
    | exact ih3 _ _ _ _
    | exact impl_TaskPut.mono _ _ _ _ _ _ _ _ _ _ _ _ _ _ _ _
    | exact impl_TasksOk.mono _ _
    | exact spec_DrawTaskPut.mono _ _
    | exact spec_TaskPut.mono _ _ _ _ _ _ _ _ _ _ _ _ _ _ _ _
    | exact spec_TasksOk.mono _ _
    | exact LeO.none _
    | refine LeO.ite ?_ ?_
    | refine LeO.bind ?_ (fun _ => ?_)
theorem laws_FnTasks.mono : ∀ a0 k, LeO (laws_FnTasks.f k a0) (laws_FnTasks.f (k + 1) a0) := by
  intro a0 k
  obtain ⟨ih0, ih1, ih2, ih3⟩ := laws_FnTasks.mono_l k
  unfold laws_FnTasks.f
  repeat' first
      | (with_reducible exact ih0 _ _ _ _ _ _ _ _ _ _ _ _ _ _ _ _ _ _)
      | (with_reducible exact ih1 _ _ _)
      | (with_reducible exact ih2 _ _ _)
      | (with_reducible exact ih3 _ _ _ _)
      | (with_reducible exact impl_TaskPut.mono _ _ _ _ _ _ _ _ _ _ _ _ _ _ _ _)
      | (with_reducible exact impl_TasksOk.mono _ _)
      | (with_reducible exact spec_DrawTaskPut.mono _ _)
      | (with_reducible exact spec_TaskPut.mono _ _ _ _ _ _ _ _ _ _ _ _ _ _ _ _)
      | (with_reducible exact spec_TasksOk.mono _ _)
      | (with_reducible exact LeO.refl _)
      | (with_reducible exact LeO.none _)
      | (with_reducible refine LeO.ite ?_ ?_)
      | (with_reducible refine LeO.bind ?_ (fun _ => ?_))
      | exact ih0 _ _ _ _ _ _ _ _ _ _ _ _ _ _ _ _ _ _
      | exact ih1 _ _ _
      | exact ih2 _ _ _
      | exact ih3 _ _ _ _
      | exact impl_TaskPut.mono _ _ _ _ _ _ _ _ _ _ _ _ _ _ _ _
      | exact impl_TasksOk.mono _ _
      | exact spec_DrawTaskPut.mono _ _
      | exact spec_TaskPut.mono _ _ _ _ _ _ _ _ _ _ _ _ _ _ _ _
      | exact spec_TasksOk.mono _ _
      | exact LeO.none _
      | refine LeO.ite ?_ ?_
      | refine LeO.bind ?_ (fun _ => ?_)
def laws_FnTasks.T6 : Bool × List (List Nat × List Nat) := (true, [([], []), ([], []), ([0, 1], [0, 1]), ([2], [2]), ([3], [3]), ([4, 3, 3], [3, 4]), ([3], [3]), ([6, 5, 3], [3, 6]), ([5, 7, 3], [3, 5, 7]), ([3, 8], [3, 8]), ([9, 7], [9]), ([10], [10]), ([11, 10, 10], [10, 11]), ([10], [10]), ([13, 12, 10], [10, 13]), ([12, 14, 10], [10, 12, 14]), ([10, 15], [10, 15])])
def laws_FnTasks.B6 : List Nat := [0, 0, 3, 7, 15, 31, 15, 127, 255, 511, 1023, 2047, 4095, 2047, 16383, 32767, 65535]
theorem laws_FnTasks.tab6 : rtab .any (opsOf Try.f4 6) = laws_FnTasks.T6 := by kernel_rfl
theorem laws_FnTasks.bits6 : waitsOk laws_FnTasks.T6.2 laws_FnTasks.B6 = true := by kernel_rfl
def laws_FnTasks.T11 : Bool × List (List Nat × List Nat) := (true, [([], []), ([0], [0]), ([1], [1]), ([2], [2]), ([2], [2]), ([3, 4, 2], [2, 3, 4]), ([5, 2], [2, 5]), ([2], [2]), ([6, 7, 2], [2, 6, 7]), ([2, 8], [2, 8]), ([9, 2], [9]), ([10], [10]), ([10], [10]), ([12, 10], [10, 12]), ([11, 13, 10, 10], [10, 11, 13]), ([14, 10], [10, 14]), ([10, 15], [10, 15])])
def laws_FnTasks.B11 : List Nat := [0, 1, 3, 7, 7, 31, 63, 7, 255, 511, 1023, 2047, 2047, 6143, 16383, 32767, 65535]
theorem laws_FnTasks.tab11 : rtab .any (opsOf Try.f4 11) = laws_FnTasks.T11 := by kernel_rfl
theorem laws_FnTasks.bits11 : waitsOk laws_FnTasks.T11.2 laws_FnTasks.B11 = true := by kernel_rfl
def laws_FnTasks.T17 : Bool × List (List Nat × List Nat) := (true, [([], []), ([0], [0]), ([1], [1]), ([2], [2]), ([2], [2]), ([3, 4, 2], [2, 3, 4]), ([5, 2], [2, 5]), ([2], [2]), ([2], [2]), ([7, 8, 2], [2, 7, 8]), ([9, 2], [2, 9]), ([6, 10, 2], [2, 6, 10]), ([2, 11], [2, 11])])
def laws_FnTasks.B17 : List Nat := [0, 1, 3, 7, 7, 31, 63, 7, 7, 391, 903, 2047, 4095]
theorem laws_FnTasks.tab17 : rtab .any (opsOf Try.f4 17) = laws_FnTasks.T17 := by kernel_rfl
theorem laws_FnTasks.bits17 : waitsOk laws_FnTasks.T17.2 laws_FnTasks.B17 = true := by kernel_rfl
set_option maxHeartbeats 8000000 in
set_option maxRecDepth 100000 in
theorem laws_FnTasks.calls (k : Nat) (A0 : Option Addr) (c0 : Nat) (l0 : List Int) (r : Bool) (w : World) (hr0 : Kd.C (Kd.int .u8) w A0 l0.length l0) (hc0 : l0.length ≤ c0) (hrt : r = true) (h : laws_FnTasks.f k l0 = some r) :
    Calls Try.prog 4 #[.slice A0 l0.length c0] w fun e w' => e = .returned (.bool r) ∧ Below w.heap.size w w' := by
  have hu30 := Try.underlying30
  have HR0 := Aside0.mk hr0
  have HC0 := Aside0.mk hc0
  clear hr0 hc0
  have HB := aM (Below.refl w.heap.size w)
  have HRT := Aside0.mk hrt
  clear hrt
  have H : ((laws_big.f l0).bind fun t101 => (if t101 = true then (some true) else ((spec_DrawTaskPut.f k l0).bind fun bt102 => ((impl_TaskPut.f k bt102.1 bt102.2.1 bt102.2.2.1 bt102.2.2.2.1 bt102.2.2.2.2.1 bt102.2.2.2.2.2.1 bt102.2.2.2.2.2.2.1 bt102.2.2.2.2.2.2.2.1 bt102.2.2.2.2.2.2.2.2.1 bt102.2.2.2.2.2.2.2.2.2.1 bt102.2.2.2.2.2.2.2.2.2.2.1 bt102.2.2.2.2.2.2.2.2.2.2.2.1 bt102.2.2.2.2.2.2.2.2.2.2.2.2.1 bt102.2.2.2.2.2.2.2.2.2.2.2.2.2.1 bt102.2.2.2.2.2.2.2.2.2.2.2.2.2.2).bind fun bt120 => ((spec_TaskPut.f k bt102.1 bt102.2.1 bt102.2.2.1 bt102.2.2.2.1 bt102.2.2.2.2.1 bt102.2.2.2.2.2.1 bt102.2.2.2.2.2.2.1 bt102.2.2.2.2.2.2.2.1 bt102.2.2.2.2.2.2.2.2.1 bt102.2.2.2.2.2.2.2.2.2.1 bt102.2.2.2.2.2.2.2.2.2.2.1 bt102.2.2.2.2.2.2.2.2.2.2.2.1 bt102.2.2.2.2.2.2.2.2.2.2.2.2.1 bt102.2.2.2.2.2.2.2.2.2.2.2.2.2.1 bt102.2.2.2.2.2.2.2.2.2.2.2.2.2.2).bind fun bt124 => (if (bt120.2 != bt124.2) = true then (laws_FnTasks.j0 k bt102.1 bt120.1 bt120.2 true bt102.2.1 bt102.2.2.1 bt102.2.2.2.1 bt102.2.2.2.2.1 bt102.2.2.2.2.2.1 bt102.2.2.2.2.2.2.1 bt102.2.2.2.2.2.2.2.1 bt102.2.2.2.2.2.2.2.2.1 bt102.2.2.2.2.2.2.2.2.2.1 bt102.2.2.2.2.2.2.2.2.2.2.1 bt102.2.2.2.2.2.2.2.2.2.2.2.1 bt102.2.2.2.2.2.2.2.2.2.2.2.2.1 bt102.2.2.2.2.2.2.2.2.2.2.2.2.2.1 bt102.2.2.2.2.2.2.2.2.2.2.2.2.2.2) else ((impl_TaskOk.f bt102.2.1 bt102.2.2.1 bt102.2.2.2.1 bt102.2.2.2.2.1 bt102.2.2.2.2.2.1 bt102.2.2.2.2.2.2.1 bt102.2.2.2.2.2.2.2.1 bt102.2.2.2.2.2.2.2.2.1 bt102.2.2.2.2.2.2.2.2.2.1 bt102.2.2.2.2.2.2.2.2.2.2.1 bt102.2.2.2.2.2.2.2.2.2.2.2.1 bt102.2.2.2.2.2.2.2.2.2.2.2.2.1 bt102.2.2.2.2.2.2.2.2.2.2.2.2.2.1 bt102.2.2.2.2.2.2.2.2.2.2.2.2.2.2).bind fun t128 => ((spec_TaskOk.f bt102.2.1 bt102.2.2.1 bt102.2.2.2.1 bt102.2.2.2.2.1 bt102.2.2.2.2.2.1 bt102.2.2.2.2.2.2.1 bt102.2.2.2.2.2.2.2.1 bt102.2.2.2.2.2.2.2.2.1 bt102.2.2.2.2.2.2.2.2.2.1 bt102.2.2.2.2.2.2.2.2.2.2.1 bt102.2.2.2.2.2.2.2.2.2.2.2.1 bt102.2.2.2.2.2.2.2.2.2.2.2.2.1 bt102.2.2.2.2.2.2.2.2.2.2.2.2.2.1 bt102.2.2.2.2.2.2.2.2.2.2.2.2.2.2).bind fun t129 => (if (t128 != t129) = true then (laws_FnTasks.j0 k bt102.1 bt120.1 bt120.2 true bt102.2.1 bt102.2.2.1 bt102.2.2.2.1 bt102.2.2.2.2.1 bt102.2.2.2.2.2.1 bt102.2.2.2.2.2.2.1 bt102.2.2.2.2.2.2.2.1 bt102.2.2.2.2.2.2.2.2.1 bt102.2.2.2.2.2.2.2.2.2.1 bt102.2.2.2.2.2.2.2.2.2.2.1 bt102.2.2.2.2.2.2.2.2.2.2.2.1 bt102.2.2.2.2.2.2.2.2.2.2.2.2.1 bt102.2.2.2.2.2.2.2.2.2.2.2.2.2.1 bt102.2.2.2.2.2.2.2.2.2.2.2.2.2.2) else ((impl_TasksOk.f k bt102.1).bind fun t130 => ((spec_TasksOk.f k bt102.1).bind fun t131 => (laws_FnTasks.j0 k bt102.1 bt120.1 bt120.2 (t130 != t131) bt102.2.1 bt102.2.2.1 bt102.2.2.2.1 bt102.2.2.2.2.1 bt102.2.2.2.2.2.1 bt102.2.2.2.2.2.2.1 bt102.2.2.2.2.2.2.2.1 bt102.2.2.2.2.2.2.2.2.1 bt102.2.2.2.2.2.2.2.2.2.1 bt102.2.2.2.2.2.2.2.2.2.2.1 bt102.2.2.2.2.2.2.2.2.2.2.2.1 bt102.2.2.2.2.2.2.2.2.2.2.2.2.1 bt102.2.2.2.2.2.2.2.2.2.2.2.2.2.1 bt102.2.2.2.2.2.2.2.2.2.2.2.2.2.2)))))))))))) = some r := h
  clear h
  replace H := Option.bind_eq_some_iff.mp H
  obtain ⟨t101, A20, H⟩ := H
  replace H : (if t101 = true then (some true) else ((spec_DrawTaskPut.f k l0).bind fun bt102 => ((impl_TaskPut.f k bt102.1 bt102.2.1 bt102.2.2.1 bt102.2.2.2.1 bt102.2.2.2.2.1 bt102.2.2.2.2.2.1 bt102.2.2.2.2.2.2.1 bt102.2.2.2.2.2.2.2.1 bt102.2.2.2.2.2.2.2.2.1 bt102.2.2.2.2.2.2.2.2.2.1 bt102.2.2.2.2.2.2.2.2.2.2.1 bt102.2.2.2.2.2.2.2.2.2.2.2.1 bt102.2.2.2.2.2.2.2.2.2.2.2.2.1 bt102.2.2.2.2.2.2.2.2.2.2.2.2.2.1 bt102.2.2.2.2.2.2.2.2.2.2.2.2.2.2).bind fun bt120 => ((spec_TaskPut.f k bt102.1 bt102.2.1 bt102.2.2.1 bt102.2.2.2.1 bt102.2.2.2.2.1 bt102.2.2.2.2.2.1 bt102.2.2.2.2.2.2.1 bt102.2.2.2.2.2.2.2.1 bt102.2.2.2.2.2.2.2.2.1 bt102.2.2.2.2.2.2.2.2.2.1 bt102.2.2.2.2.2.2.2.2.2.2.1 bt102.2.2.2.2.2.2.2.2.2.2.2.1 bt102.2.2.2.2.2.2.2.2.2.2.2.2.1 bt102.2.2.2.2.2.2.2.2.2.2.2.2.2.1 bt102.2.2.2.2.2.2.2.2.2.2.2.2.2.2).bind fun bt124 => (if (bt120.2 != bt124.2) = true then (laws_FnTasks.j0 k bt102.1 bt120.1 bt120.2 true bt102.2.1 bt102.2.2.1 bt102.2.2.2.1 bt102.2.2.2.2.1 bt102.2.2.2.2.2.1 bt102.2.2.2.2.2.2.1 bt102.2.2.2.2.2.2.2.1 bt102.2.2.2.2.2.2.2.2.1 bt102.2.2.2.2.2.2.2.2.2.1 bt102.2.2.2.2.2.2.2.2.2.2.1 bt102.2.2.2.2.2.2.2.2.2.2.2.1 bt102.2.2.2.2.2.2.2.2.2.2.2.2.1 bt102.2.2.2.2.2.2.2.2.2.2.2.2.2.1 bt102.2.2.2.2.2.2.2.2.2.2.2.2.2.2) else ((impl_TaskOk.f bt102.2.1 bt102.2.2.1 bt102.2.2.2.1 bt102.2.2.2.2.1 bt102.2.2.2.2.2.1 bt102.2.2.2.2.2.2.1 bt102.2.2.2.2.2.2.2.1 bt102.2.2.2.2.2.2.2.2.1 bt102.2.2.2.2.2.2.2.2.2.1 bt102.2.2.2.2.2.2.2.2.2.2.1 bt102.2.2.2.2.2.2.2.2.2.2.2.1 bt102.2.2.2.2.2.2.2.2.2.2.2.2.1 bt102.2.2.2.2.2.2.2.2.2.2.2.2.2.1 bt102.2.2.2.2.2.2.2.2.2.2.2.2.2.2).bind fun t128 => ((spec_TaskOk.f bt102.2.1 bt102.2.2.1 bt102.2.2.2.1 bt102.2.2.2.2.1 bt102.2.2.2.2.2.1 bt102.2.2.2.2.2.2.1 bt102.2.2.2.2.2.2.2.1 bt102.2.2.2.2.2.2.2.2.1 bt102.2.2.2.2.2.2.2.2.2.1 bt102.2.2.2.2.2.2.2.2.2.2.1 bt102.2.2.2.2.2.2.2.2.2.2.2.1 bt102.2.2.2.2.2.2.2.2.2.2.2.2.1 bt102.2.2.2.2.2.2.2.2.2.2.2.2.2.1 bt102.2.2.2.2.2.2.2.2.2.2.2.2.2.2).bind fun t129 => (if (t128 != t129) = true then (laws_FnTasks.j0 k bt102.1 bt120.1 bt120.2 true bt102.2.1 bt102.2.2.1 bt102.2.2.2.1 bt102.2.2.2.2.1 bt102.2.2.2.2.2.1 bt102.2.2.2.2.2.2.1 bt102.2.2.2.2.2.2.2.1 bt102.2.2.2.2.2.2.2.2.1 bt102.2.2.2.2.2.2.2.2.2.1 bt102.2.2.2.2.2.2.2.2.2.2.1 bt102.2.2.2.2.2.2.2.2.2.2.2.1 bt102.2.2.2.2.2.2.2.2.2.2.2.2.1 bt102.2.2.2.2.2.2.2.2.2.2.2.2.2.1 bt102.2.2.2.2.2.2.2.2.2.2.2.2.2.2) else ((impl_TasksOk.f k bt102.1).bind fun t130 => ((spec_TasksOk.f k bt102.1).bind fun t131 => (laws_FnTasks.j0 k bt102.1 bt120.1 bt120.2 (t130 != t131) bt102.2.1 bt102.2.2.1 bt102.2.2.2.1 bt102.2.2.2.2.1 bt102.2.2.2.2.2.1 bt102.2.2.2.2.2.2.1 bt102.2.2.2.2.2.2.2.1 bt102.2.2.2.2.2.2.2.2.1 bt102.2.2.2.2.2.2.2.2.2.1 bt102.2.2.2.2.2.2.2.2.2.2.1 bt102.2.2.2.2.2.2.2.2.2.2.2.1 bt102.2.2.2.2.2.2.2.2.2.2.2.2.1 bt102.2.2.2.2.2.2.2.2.2.2.2.2.2.1 bt102.2.2.2.2.2.2.2.2.2.2.2.2.2.2))))))))))) = some r := H
  have A2 := Aside0.mk A20
  clear A20
  by_cases c3 : t101 = true
  · subst c3
    have H1 : (some true) = some r := by rw [if_pos rfl] at H; exact H
    clear H
    have H := H1
    clear H1
    obtain rfl := Option.some.inj H
    go_enter Try.func4, Try.ntmps4
    go_wp2_with (first | ((with_reducible refine gate_callee (f := 13) rfl ?_); refine gL (some 13) Try.func13 #[.slice A0 l0.length c0] ?_; (with_reducible refine (laws_big.calls _ _ l0 true _ ?side1 ?side2 A2.out).mono ?_); (case side1 => repeat (first | exact HR0.out | (with_reducible refine Kd.C_alloc ?_ _) | (with_reducible refine Kd.C_drewN ?_ _) | (with_reducible refine Kd.C_drew ?_))); (case side2 => exact HC0.out); rintro e w' ⟨rfl, ⟨nd, rfl⟩⟩; refine ⟨_, rfl, ?_⟩))
    all_goals go_ret
    all_goals exact ⟨by first | rfl | (simp <;> rfl) | (simp [*] <;> rfl), bq HB⟩
  replace c3 := Bool.eq_false_iff.mpr c3
  subst c3
  have H1 : ((spec_DrawTaskPut.f k l0).bind fun bt102 => ((impl_TaskPut.f k bt102.1 bt102.2.1 bt102.2.2.1 bt102.2.2.2.1 bt102.2.2.2.2.1 bt102.2.2.2.2.2.1 bt102.2.2.2.2.2.2.1 bt102.2.2.2.2.2.2.2.1 bt102.2.2.2.2.2.2.2.2.1 bt102.2.2.2.2.2.2.2.2.2.1 bt102.2.2.2.2.2.2.2.2.2.2.1 bt102.2.2.2.2.2.2.2.2.2.2.2.1 bt102.2.2.2.2.2.2.2.2.2.2.2.2.1 bt102.2.2.2.2.2.2.2.2.2.2.2.2.2.1 bt102.2.2.2.2.2.2.2.2.2.2.2.2.2.2).bind fun bt120 => ((spec_TaskPut.f k bt102.1 bt102.2.1 bt102.2.2.1 bt102.2.2.2.1 bt102.2.2.2.2.1 bt102.2.2.2.2.2.1 bt102.2.2.2.2.2.2.1 bt102.2.2.2.2.2.2.2.1 bt102.2.2.2.2.2.2.2.2.1 bt102.2.2.2.2.2.2.2.2.2.1 bt102.2.2.2.2.2.2.2.2.2.2.1 bt102.2.2.2.2.2.2.2.2.2.2.2.1 bt102.2.2.2.2.2.2.2.2.2.2.2.2.1 bt102.2.2.2.2.2.2.2.2.2.2.2.2.2.1 bt102.2.2.2.2.2.2.2.2.2.2.2.2.2.2).bind fun bt124 => (if (bt120.2 != bt124.2) = true then (laws_FnTasks.j0 k bt102.1 bt120.1 bt120.2 true bt102.2.1 bt102.2.2.1 bt102.2.2.2.1 bt102.2.2.2.2.1 bt102.2.2.2.2.2.1 bt102.2.2.2.2.2.2.1 bt102.2.2.2.2.2.2.2.1 bt102.2.2.2.2.2.2.2.2.1 bt102.2.2.2.2.2.2.2.2.2.1 bt102.2.2.2.2.2.2.2.2.2.2.1 bt102.2.2.2.2.2.2.2.2.2.2.2.1 bt102.2.2.2.2.2.2.2.2.2.2.2.2.1 bt102.2.2.2.2.2.2.2.2.2.2.2.2.2.1 bt102.2.2.2.2.2.2.2.2.2.2.2.2.2.2) else ((impl_TaskOk.f bt102.2.1 bt102.2.2.1 bt102.2.2.2.1 bt102.2.2.2.2.1 bt102.2.2.2.2.2.1 bt102.2.2.2.2.2.2.1 bt102.2.2.2.2.2.2.2.1 bt102.2.2.2.2.2.2.2.2.1 bt102.2.2.2.2.2.2.2.2.2.1 bt102.2.2.2.2.2.2.2.2.2.2.1 bt102.2.2.2.2.2.2.2.2.2.2.2.1 bt102.2.2.2.2.2.2.2.2.2.2.2.2.1 bt102.2.2.2.2.2.2.2.2.2.2.2.2.2.1 bt102.2.2.2.2.2.2.2.2.2.2.2.2.2.2).bind fun t128 => ((spec_TaskOk.f bt102.2.1 bt102.2.2.1 bt102.2.2.2.1 bt102.2.2.2.2.1 bt102.2.2.2.2.2.1 bt102.2.2.2.2.2.2.1 bt102.2.2.2.2.2.2.2.1 bt102.2.2.2.2.2.2.2.2.1 bt102.2.2.2.2.2.2.2.2.2.1 bt102.2.2.2.2.2.2.2.2.2.2.1 bt102.2.2.2.2.2.2.2.2.2.2.2.1 bt102.2.2.2.2.2.2.2.2.2.2.2.2.1 bt102.2.2.2.2.2.2.2.2.2.2.2.2.2.1 bt102.2.2.2.2.2.2.2.2.2.2.2.2.2.2).bind fun t129 => (if (t128 != t129) = true then (laws_FnTasks.j0 k bt102.1 bt120.1 bt120.2 true bt102.2.1 bt102.2.2.1 bt102.2.2.2.1 bt102.2.2.2.2.1 bt102.2.2.2.2.2.1 bt102.2.2.2.2.2.2.1 bt102.2.2.2.2.2.2.2.1 bt102.2.2.2.2.2.2.2.2.1 bt102.2.2.2.2.2.2.2.2.2.1 bt102.2.2.2.2.2.2.2.2.2.2.1 bt102.2.2.2.2.2.2.2.2.2.2.2.1 bt102.2.2.2.2.2.2.2.2.2.2.2.2.1 bt102.2.2.2.2.2.2.2.2.2.2.2.2.2.1 bt102.2.2.2.2.2.2.2.2.2.2.2.2.2.2) else ((impl_TasksOk.f k bt102.1).bind fun t130 => ((spec_TasksOk.f k bt102.1).bind fun t131 => (laws_FnTasks.j0 k bt102.1 bt120.1 bt120.2 (t130 != t131) bt102.2.1 bt102.2.2.1 bt102.2.2.2.1 bt102.2.2.2.2.1 bt102.2.2.2.2.2.1 bt102.2.2.2.2.2.2.1 bt102.2.2.2.2.2.2.2.1 bt102.2.2.2.2.2.2.2.2.1 bt102.2.2.2.2.2.2.2.2.2.1 bt102.2.2.2.2.2.2.2.2.2.2.1 bt102.2.2.2.2.2.2.2.2.2.2.2.1 bt102.2.2.2.2.2.2.2.2.2.2.2.2.1 bt102.2.2.2.2.2.2.2.2.2.2.2.2.2.1 bt102.2.2.2.2.2.2.2.2.2.2.2.2.2.2)))))))))) = some r := by rw [if_neg (show ¬ (false = true) by decide)] at H; exact H
  clear H
  have H := H1
  clear H1
  replace H := Option.bind_eq_some_iff.mp H
  obtain ⟨⟨t102, t105, t106, t107, t108, t109, t110, t111, t112, t113, t114, t115, t116, t117, t118⟩, A40, H⟩ := H
  replace H : ((impl_TaskPut.f k t102 t105 t106 t107 t108 t109 t110 t111 t112 t113 t114 t115 t116 t117 t118).bind fun bt120 => ((spec_TaskPut.f k t102 t105 t106 t107 t108 t109 t110 t111 t112 t113 t114 t115 t116 t117 t118).bind fun bt124 => (if (bt120.2 != bt124.2) = true then (laws_FnTasks.j0 k t102 bt120.1 bt120.2 true t105 t106 t107 t108 t109 t110 t111 t112 t113 t114 t115 t116 t117 t118) else ((impl_TaskOk.f t105 t106 t107 t108 t109 t110 t111 t112 t113 t114 t115 t116 t117 t118).bind fun t128 => ((spec_TaskOk.f t105 t106 t107 t108 t109 t110 t111 t112 t113 t114 t115 t116 t117 t118).bind fun t129 => (if (t128 != t129) = true then (laws_FnTasks.j0 k t102 bt120.1 bt120.2 true t105 t106 t107 t108 t109 t110 t111 t112 t113 t114 t115 t116 t117 t118) else ((impl_TasksOk.f k t102).bind fun t130 => ((spec_TasksOk.f k t102).bind fun t131 => (laws_FnTasks.j0 k t102 bt120.1 bt120.2 (t130 != t131) t105 t106 t107 t108 t109 t110 t111 t112 t113 t114 t115 t116 t117 t118))))))))) = some r := H
  have A4 := Aside0.mk A40
  clear A40
  replace H := Option.bind_eq_some_iff.mp H
  obtain ⟨⟨t120, t123⟩, A50, H⟩ := H
  replace H : ((spec_TaskPut.f k t102 t105 t106 t107 t108 t109 t110 t111 t112 t113 t114 t115 t116 t117 t118).bind fun bt124 => (if (t123 != bt124.2) = true then (laws_FnTasks.j0 k t102 t120 t123 true t105 t106 t107 t108 t109 t110 t111 t112 t113 t114 t115 t116 t117 t118) else ((impl_TaskOk.f t105 t106 t107 t108 t109 t110 t111 t112 t113 t114 t115 t116 t117 t118).bind fun t128 => ((spec_TaskOk.f t105 t106 t107 t108 t109 t110 t111 t112 t113 t114 t115 t116 t117 t118).bind fun t129 => (if (t128 != t129) = true then (laws_FnTasks.j0 k t102 t120 t123 true t105 t106 t107 t108 t109 t110 t111 t112 t113 t114 t115 t116 t117 t118) else ((impl_TasksOk.f k t102).bind fun t130 => ((spec_TasksOk.f k t102).bind fun t131 => (laws_FnTasks.j0 k t102 t120 t123 (t130 != t131) t105 t106 t107 t108 t109 t110 t111 t112 t113 t114 t115 t116 t117 t118)))))))) = some r := H
  have A5 := Aside0.mk A50
  clear A50
  replace H := Option.bind_eq_some_iff.mp H
  obtain ⟨⟨t124, t127⟩, A60, H⟩ := H
  replace H : (if (t123 != t127) = true then (laws_FnTasks.j0 k t102 t120 t123 true t105 t106 t107 t108 t109 t110 t111 t112 t113 t114 t115 t116 t117 t118) else ((impl_TaskOk.f t105 t106 t107 t108 t109 t110 t111 t112 t113 t114 t115 t116 t117 t118).bind fun t128 => ((spec_TaskOk.f t105 t106 t107 t108 t109 t110 t111 t112 t113 t114 t115 t116 t117 t118).bind fun t129 => (if (t128 != t129) = true then (laws_FnTasks.j0 k t102 t120 t123 true t105 t106 t107 t108 t109 t110 t111 t112 t113 t114 t115 t116 t117 t118) else ((impl_TasksOk.f k t102).bind fun t130 => ((spec_TasksOk.f k t102).bind fun t131 => (laws_FnTasks.j0 k t102 t120 t123 (t130 != t131) t105 t106 t107 t108 t109 t110 t111 t112 t113 t114 t115 t116 t117 t118))))))) = some r := H
  have A6 := Aside0.mk A60
  clear A60
  have HC7 := Aside0.mk H
  clear H
  go_enter Try.func4, Try.ntmps4
  go_upto_region 6 with (first | ((with_reducible refine gate_callee (f := 13) rfl ?_); refine gL (some 13) Try.func13 #[.slice A0 l0.length c0] ?_; (with_reducible refine (laws_big.calls _ _ l0 false _ ?side1 ?side2 A2.out).mono ?_); (case side1 => repeat (first | exact HR0.out | (with_reducible refine Kd.C_alloc ?_ _) | (with_reducible refine Kd.C_drewN ?_ _) | (with_reducible refine Kd.C_drew ?_))); (case side2 => exact HC0.out); rintro e w' ⟨rfl, ⟨nd, rfl⟩⟩; refine ⟨_, rfl, ?_⟩) | ((with_reducible refine gate_callee (f := 14) rfl ?_); refine gL (some 16) Try.func14 #[.slice A0 l0.length c0] ?_; (with_reducible refine (spec_DrawTaskPut.calls k _ _ l0 t102 t105 t106 t107 t108 t109 t110 t111 t112 t113 t114 t115 t116 t117 t118 _ ?side1 ?side2 A4.out).mono ?_); (case side1 => repeat (first | exact HR0.out | (with_reducible refine Kd.C_alloc ?_ _) | (with_reducible refine Kd.C_drewN ?_ _) | (with_reducible refine Kd.C_drew ?_))); (case side2 => exact HC0.out); rintro e w8 ⟨v103, rfl, ho0, hb⟩; refine ⟨_, rfl, ?_⟩; have n0_ := aM (Kd.R_lower ho0 (below_size (bq HB))); have n1_ := aM (below_step (bq HB) hb); clear HB; have HO104 := n0_; have HB := n1_; clear n0_ n1_; (try clear hb); (try clear hb2); (try clear hk); (try clear hi); (try clear ho0)) | ((with_reducible refine gate_dst (N := 4) rfl ?_); (try (refine gate_guard (by rfl) ?_; dsimp only)); refine box_event ?hg (N := 4) ?hd (cs := tk14 0 0 0 0 false 0 0 0 0 0 0 0 0 0) (t := 30) ?hr ?_; (case hd => rfl); (case hg => rfl); (case hr => first | (go_simp; done) | (go_simp; rfl)); intro gb119 hg w9 hbox hb; have n0_ := aM (Kd.R_below (Kd.R_elderB (rq HO104) gb119 (Nat.le_of_eq hg.symm)) hb); have n1_ := aM (below_step (bq HB) hb); have n2_ := aM (hbox); have n3_ := aM ((by rw [hg]; exact (below_size (bq HB)) : w.heap.size ≤ gb119)); have n4_ := n3_; clear HO104 HB; have HO104 := n0_; have HB := n1_; have BK119 := n2_; have GW119 := n3_; have GE119 := n4_; clear n0_ n1_ n2_ n3_ n4_; clear hb hbox hg; obtain ⟨_,_,_,_,_,_,_,_,_,_,_,_,_,_⟩ := cz14 BK119.out; have hfz10_0 := blk_frozen BK119.out; obtain ⟨Ao11, co11, eo11⟩ := Kd.R_slice HO104.out; subst eo11) | ((with_reducible refine gate_callee (f := 9) rfl ?_); refine gL (some 22) Try.func9 #[.slice Ao11 t102.length co11, .agg #[.int .i64 t105, .int .i64 t106, .int .i64 t107, .int .i64 t108, .bool t109, .int .i64 t110, .int .i64 t111, .int .i64 t112, .int .i64 t113, .int .i64 t114, .int .i64 t115, .int .i64 t116, .int .i64 t117, .int .i64 t118]] ?_; (with_reducible refine (impl_TaskPut.calls k _ _ t102 t105 t106 t107 t108 t109 t110 t111 t112 t113 t114 t115 t116 t117 t118 t120 t123 _ ?side1 ?side2 A5.out).mono ?_); (case side1 => refine (Kd.R_reads' (e := 30) (base := w.heap.size) (ok := fun k_ => (True ∧ k_ ≠ gb119)) (n := t102.length) (c := co11) ?_).2.2; exact (by (with_reducible repeat (first | apply Kd.R_alloc | apply Kd.R_drewN | apply Kd.R_drew)); exact (Kd.R_mono (Kd.R_far (p := ⟨gb119, 13, none⟩) (Kd.R_far (p := ⟨gb119, 12, none⟩) (Kd.R_far (p := ⟨gb119, 11, none⟩) (Kd.R_far (p := ⟨gb119, 10, none⟩) (Kd.R_far (p := ⟨gb119, 9, none⟩) (Kd.R_far (p := ⟨gb119, 8, none⟩) (Kd.R_far (p := ⟨gb119, 7, none⟩) (Kd.R_far (p := ⟨gb119, 6, none⟩) (Kd.R_far (p := ⟨gb119, 5, none⟩) (Kd.R_far (p := ⟨gb119, 4, none⟩) (Kd.R_far (p := ⟨gb119, 3, none⟩) (Kd.R_far (p := ⟨gb119, 2, none⟩) (Kd.R_far (p := ⟨gb119, 1, none⟩) (Kd.R_far (p := ⟨gb119, 0, none⟩) (Kd.R_mono HO104.out (fun k_ hk => (⟨hk, hk.2⟩ : _ ∧ k_ ≠ gb119))) (fun _ hk => hk.2) (.int .i64 t105)) (fun _ hk => hk.2) (.int .i64 t106)) (fun _ hk => hk.2) (.int .i64 t107)) (fun _ hk => hk.2) (.int .i64 t108)) (fun _ hk => hk.2) (.bool t109)) (fun _ hk => hk.2) (.int .i64 t110)) (fun _ hk => hk.2) (.int .i64 t111)) (fun _ hk => hk.2) (.int .i64 t112)) (fun _ hk => hk.2) (.int .i64 t113)) (fun _ hk => hk.2) (.int .i64 t114)) (fun _ hk => hk.2) (.int .i64 t115)) (fun _ hk => hk.2) (.int .i64 t116)) (fun _ hk => hk.2) (.int .i64 t117)) (fun _ hk => hk.2) (.int .i64 t118)) (fun _ h_ => h_.1)))); (case side2 => exact (Kd.R_reads' HO104.out).2.1); rintro e w12 ⟨v121, rfl, ho0, hb⟩; refine ⟨_, rfl, ?_⟩; have n0_ := aM (Kd.R_elder' (by (with_reducible repeat (first | apply Kd.R_alloc | apply Kd.R_drewN | apply Kd.R_drew)); exact (Kd.R_mono (Kd.R_far (p := ⟨gb119, 13, none⟩) (Kd.R_far (p := ⟨gb119, 12, none⟩) (Kd.R_far (p := ⟨gb119, 11, none⟩) (Kd.R_far (p := ⟨gb119, 10, none⟩) (Kd.R_far (p := ⟨gb119, 9, none⟩) (Kd.R_far (p := ⟨gb119, 8, none⟩) (Kd.R_far (p := ⟨gb119, 7, none⟩) (Kd.R_far (p := ⟨gb119, 6, none⟩) (Kd.R_far (p := ⟨gb119, 5, none⟩) (Kd.R_far (p := ⟨gb119, 4, none⟩) (Kd.R_far (p := ⟨gb119, 3, none⟩) (Kd.R_far (p := ⟨gb119, 2, none⟩) (Kd.R_far (p := ⟨gb119, 1, none⟩) (Kd.R_far (p := ⟨gb119, 0, none⟩) (Kd.R_mono HO104.out (fun k_ hk => (⟨hk, hk.2⟩ : _ ∧ k_ ≠ gb119))) (fun _ hk => hk.2) (.int .i64 t105)) (fun _ hk => hk.2) (.int .i64 t106)) (fun _ hk => hk.2) (.int .i64 t107)) (fun _ hk => hk.2) (.int .i64 t108)) (fun _ hk => hk.2) (.bool t109)) (fun _ hk => hk.2) (.int .i64 t110)) (fun _ hk => hk.2) (.int .i64 t111)) (fun _ hk => hk.2) (.int .i64 t112)) (fun _ hk => hk.2) (.int .i64 t113)) (fun _ hk => hk.2) (.int .i64 t114)) (fun _ hk => hk.2) (.int .i64 t115)) (fun _ hk => hk.2) (.int .i64 t116)) (fun _ hk => hk.2) (.int .i64 t117)) (fun _ hk => hk.2) (.int .i64 t118)) (fun _ h_ => h_.1))) (Kd.R_base ho0) hb); have n1_ := aM (Kd.R_lower (Kd.R_newB (Kd.R_new' ho0 (Kd.R_lt (by (with_reducible repeat (first | apply Kd.R_alloc | apply Kd.R_drewN | apply Kd.R_drew)); exact (Kd.R_mono (Kd.R_far (p := ⟨gb119, 13, none⟩) (Kd.R_far (p := ⟨gb119, 12, none⟩) (Kd.R_far (p := ⟨gb119, 11, none⟩) (Kd.R_far (p := ⟨gb119, 10, none⟩) (Kd.R_far (p := ⟨gb119, 9, none⟩) (Kd.R_far (p := ⟨gb119, 8, none⟩) (Kd.R_far (p := ⟨gb119, 7, none⟩) (Kd.R_far (p := ⟨gb119, 6, none⟩) (Kd.R_far (p := ⟨gb119, 5, none⟩) (Kd.R_far (p := ⟨gb119, 4, none⟩) (Kd.R_far (p := ⟨gb119, 3, none⟩) (Kd.R_far (p := ⟨gb119, 2, none⟩) (Kd.R_far (p := ⟨gb119, 1, none⟩) (Kd.R_far (p := ⟨gb119, 0, none⟩) (Kd.R_mono HO104.out (fun k_ hk => (⟨hk, hk.2⟩ : _ ∧ k_ ≠ gb119))) (fun _ hk => hk.2) (.int .i64 t105)) (fun _ hk => hk.2) (.int .i64 t106)) (fun _ hk => hk.2) (.int .i64 t107)) (fun _ hk => hk.2) (.int .i64 t108)) (fun _ hk => hk.2) (.bool t109)) (fun _ hk => hk.2) (.int .i64 t110)) (fun _ hk => hk.2) (.int .i64 t111)) (fun _ hk => hk.2) (.int .i64 t112)) (fun _ hk => hk.2) (.int .i64 t113)) (fun _ hk => hk.2) (.int .i64 t114)) (fun _ hk => hk.2) (.int .i64 t115)) (fun _ hk => hk.2) (.int .i64 t116)) (fun _ hk => hk.2) (.int .i64 t117)) (fun _ hk => hk.2) (.int .i64 t118)) (fun _ h_ => h_.1))))) (g := gb119) (o := .cells (tk14 t105 t106 t107 t108 t109 t110 t111 t112 t113 t114 t115 t116 t117 t118) 30 (0, 0)) (by refine put14 (cs := tk14 0 0 0 0 false 0 0 0 0 0 0 0 0 0) ?_; (with_reducible repeat (first | apply bkD | apply bkd | apply bkA)); exact BK119.out)) (below_size (bq HB))); have n2_ := aM (blk_below (g := gb119) (o := .cells (tk14 t105 t106 t107 t108 t109 t110 t111 t112 t113 t114 t115 t116 t117 t118) 30 (0, 0)) (by refine put14 (cs := tk14 0 0 0 0 false 0 0 0 0 0 0 0 0 0) ?_; (with_reducible repeat (first | apply bkD | apply bkd | apply bkA)); exact BK119.out) hb); have n3_ := aM (below_step (bq HB) hb); clear HO104 BK119 HB; have HO104 := n0_; have HO122 := n1_; have BK119 := n2_; have HB := n3_; clear n0_ n1_ n2_ n3_; (try clear hb); (try clear hb2); (try clear hk); (try clear hi); (try clear ho0); obtain ⟨_,_,_,_,_,_,_,_,_,_,_,_,_,_⟩ := cz14 BK119.out; have hfz13_0 := blk_frozen BK119.out) | ((with_reducible refine gate_callee (f := 6) rfl ?_); refine gL (some 28) Try.func6 #[.slice Ao11 t102.length co11, .agg #[.int .i64 t105, .int .i64 t106, .int .i64 t107, .int .i64 t108, .bool t109, .int .i64 t110, .int .i64 t111, .int .i64 t112, .int .i64 t113, .int .i64 t114, .int .i64 t115, .int .i64 t116, .int .i64 t117, .int .i64 t118]] ?_; (with_reducible refine (spec_TaskPut.calls k _ _ t102 t105 t106 t107 t108 t109 t110 t111 t112 t113 t114 t115 t116 t117 t118 t124 t127 _ ?side1 ?side2 A6.out).mono ?_); (case side1 => repeat (first | exact (Kd.R_reads' HO104.out).2.2 | (with_reducible refine Kd.C_alloc ?_ _) | (with_reducible refine Kd.C_drewN ?_ _) | (with_reducible refine Kd.C_drew ?_))); (case side2 => exact (Kd.R_reads' HO104.out).2.1); rintro e w14 ⟨v125, rfl, ho0, hb⟩; refine ⟨_, rfl, ?_⟩; have n0_ := aM (Kd.R_elder' (rq HO104) (Kd.R_base ho0) hb); have n1_ := aM (Kd.R_elder' (rq HO122) (Kd.R_base ho0) hb); have n2_ := aM (Kd.R_lower (Kd.R_newB (Kd.R_new' (Kd.R_new' ho0 (Kd.R_lt (rq HO104))) (Kd.R_lt (rq HO122))) (g := gb119) (o := .cells (tk14 t105 t106 t107 t108 t109 t110 t111 t112 t113 t114 t115 t116 t117 t118) 30 (0, 0)) (kq BK119)) (below_size (bq HB))); have n3_ := aM (blk_below (kq BK119) hb); have n4_ := aM (below_step (bq HB) hb); clear HO104 HO122 BK119 HB; have HO104 := n0_; have HO122 := n1_; have HO126 := n2_; have BK119 := n3_; have HB := n4_; clear n0_ n1_ n2_ n3_ n4_; (try clear hb); (try clear hb2); (try clear hk); (try clear hi); (try clear ho0)))
  (try simp only [Act.put, tA, tB, tC])
  go_cut [47] (fun v47 wc => ∃ (kq : Nat) (x47_6 : Bool), v47 = .bool x47_6 ∧ Aside0 (laws_FnTasks.j0 kq t102 t120 t123 x47_6 t105 t106 t107 t108 t109 t110 t111 t112 t113 t114 t115 t116 t117 t118 = some r) ∧ Aside0 (kq ≤ k) ∧ Aside0 (Kd.R k30 30 wc w.heap.size (fun k_ => some k_ ≠ (v121 : Value).ownBlock ∧ k_ ≠ gb119) (.slice Ao11 t102.length co11) t102) ∧ Aside0 (Kd.R k30 30 wc w.heap.size (fun k_ => some k_ ≠ ((.slice Ao11 t102.length co11) : Value).ownBlock ∧ k_ ≠ gb119) v121 t120) ∧ Aside0 (wc.heap[gb119]? = some (.cells #[.int .i64 t105, .int .i64 t106, .int .i64 t107, .int .i64 t108, .bool t109, .int .i64 t110, .int .i64 t111, .int .i64 t112, .int .i64 t113, .int .i64 t114, .int .i64 t115, .int .i64 t116, .int .i64 t117, .int .i64 t118] 30 (0, 0))) ∧ Aside0 (Below w.heap.size w wc))
  case first =>
    have H := HC7.out
    clear HC7
    by_cases c15 : (t123 != t127) = true
    · rw [if_pos c15] at H
      have c15b0 : (t123 != t127) = true := c15
      (try (have c15b1 : decide (t123 = t127) = false := by simpa using c15))
      (try (have c15b2 : (t123 == t127) = false := by simpa using c15))
      (try (have c15b3 : ¬ (t123 = t127) := by simpa using c15))
      clear c15
      (first | rw [c15b0] | (simp only [i64_w, i32_w]; rw [c15b0]) | skip)
      have H' := Aside0.mk H
      clear H
      try go_wp2
      have n0_ := aM (Kd.R_drew HO104.out)
      have n1_ := aM (Kd.R_drew HO122.out)
      have n2_ := aM (Kd.R_drew HO126.out)
      have n3_ := aM (blk_drew BK119.out)
      have n4_ := aM (below_drew1 HB.out)
      clear HO104 HO122 HO126 BK119 HB
      have HO104 := n0_
      have HO122 := n1_
      have HO126 := n2_
      have BK119 := n3_
      have HB := n4_
      clear n0_ n1_ n2_ n3_ n4_
      refine start_ (n := 17) (S := fun w' => True) (ds := []) #[nn,nn,nn,nn,nn,nn,nn,nn,nn,nn,nn,nn,nn,nn,nn,nn,nn] (by kernel_rfl) rfl rfl trivial (fun hHeld => ?_); refine with_tabW laws_FnTasks.tab6 laws_FnTasks.bits6 (fun HT_ HW_ => ?_)
      generalize w14.drew = w16 at HO104 HO122 HO126 BK119 HB hHeld ⊢
      refine pQ (i := 0) (N := some 31) #[yy,nn,nn,nn,nn,nn,nn,nn,nn,nn,nn,nn,nn,nn,nn,nn,nn] (any_of HT_.out (by kernel_rfl)) ?_
      refine pQ (i := 1) (N := some 32) #[yy,yy,nn,nn,nn,nn,nn,nn,nn,nn,nn,nn,nn,nn,nn,nn,nn] (any_of HT_.out (by kernel_rfl)) ?_
      refine pQ (i := 2) (N := some 33) #[yy,yy,yy,nn,nn,nn,nn,nn,nn,nn,nn,nn,nn,nn,nn,nn,nn] (any_of HT_.out (by kernel_rfl)) ?_
      refine pQ (i := 3) (N := some 34) #[yy,yy,yy,yy,nn,nn,nn,nn,nn,nn,nn,nn,nn,nn,nn,nn,nn] (any_of HT_.out (by kernel_rfl)) ?_
      refine pure_ (i := 4) (N := some 35) (v := undef) (a' := ?_) #[yy,yy,yy,yy,yy,nn,nn,nn,nn,nn,nn,nn,nn,nn,nn,nn,nn] rfl rfl (any_of HT_.out (by kernel_rfl)) (fun _ _ _ h => h) (Or.inr ⟨by rfl, rfl⟩) ?_ ?_
      rotate_left
      · simp only [Act.put, tA, tB, tC, i64_w, i32_w]
        rfl
      refine pure_ (i := 5) (N := some 36) (v := undef) (a' := ?_) #[yy,yy,yy,yy,yy,yy,nn,nn,nn,nn,nn,nn,nn,nn,nn,nn,nn] rfl rfl (any_of HT_.out (by kernel_rfl)) (fun _ _ _ h => h) (Or.inr ⟨by rfl, rfl⟩) ?_ ?_
      rotate_left
      · simp only [Act.put, tA, tB, tC, i64_w, i32_w]
        rfl
      refine pure_ (i := 6) (N := some 37) (v := undef) (a' := ?_) #[yy,yy,yy,yy,yy,yy,yy,nn,nn,nn,nn,nn,nn,nn,nn,nn,nn] rfl rfl (any_of HT_.out (by kernel_rfl)) (fun _ _ _ h => h) (Or.inr ⟨by rfl, rfl⟩) ?_ ?_
      rotate_left
      · simp only [Act.put, tA, tB, tC, i64_w, i32_w]
        rfl
      refine pure_ (i := 7) (N := some 38) (v := undef) (a' := ?_) #[yy,yy,yy,yy,yy,yy,yy,yy,nn,nn,nn,nn,nn,nn,nn,nn,nn] rfl rfl (any_of HT_.out (by kernel_rfl)) (fun _ _ _ h => h) (Or.inr ⟨by rfl, rfl⟩) ?_ ?_
      rotate_left
      · simp only [Act.put, tA, tB, tC, i64_w, i32_w]
        rfl
      refine pure_ (i := 8) (N := some 39) (v := undef) (a' := ?_) #[yy,yy,yy,yy,yy,yy,yy,yy,yy,nn,nn,nn,nn,nn,nn,nn,nn] rfl rfl (any_of HT_.out (by kernel_rfl)) (fun _ _ _ h => h) (Or.inr ⟨by rfl, rfl⟩) ?_ ?_
      rotate_left
      · simp only [Act.put, tA, tB, tC, i64_w, i32_w]
        rfl
      refine pQ (i := 9) (N := some 40) #[yy,yy,yy,yy,yy,yy,yy,yy,yy,yy,nn,nn,nn,nn,nn,nn,nn] (any_of HT_.out (by kernel_rfl)) ?_
      refine pQ (i := 10) (N := some 41) #[yy,yy,yy,yy,yy,yy,yy,yy,yy,yy,yy,nn,nn,nn,nn,nn,nn] (any_of HT_.out (by kernel_rfl)) ?_
      refine pure_ (i := 11) (N := some 42) (v := undef) (a' := ?_) #[yy,yy,yy,yy,yy,yy,yy,yy,yy,yy,yy,yy,nn,nn,nn,nn,nn] rfl rfl (any_of HT_.out (by kernel_rfl)) (fun _ _ _ h => h) (Or.inr ⟨by rfl, rfl⟩) ?_ ?_
      rotate_left
      · simp only [Act.put, tA, tB, tC, i64_w, i32_w]
        rfl
      refine pure_ (i := 12) (N := some 43) (v := undef) (a' := ?_) #[yy,yy,yy,yy,yy,yy,yy,yy,yy,yy,yy,yy,yy,nn,nn,nn,nn] rfl rfl (any_of HT_.out (by kernel_rfl)) (fun _ _ _ h => h) (Or.inr ⟨by rfl, rfl⟩) ?_ ?_
      rotate_left
      · simp only [Act.put, tA, tB, tC, i64_w, i32_w]
        rfl
      refine pure_ (i := 13) (N := some 44) (v := undef) (a' := ?_) #[yy,yy,yy,yy,yy,yy,yy,yy,yy,yy,yy,yy,yy,yy,nn,nn,nn] rfl rfl (any_of HT_.out (by kernel_rfl)) (fun _ _ _ h => h) (Or.inr ⟨by rfl, rfl⟩) ?_ ?_
      rotate_left
      · simp only [Act.put, tA, tB, tC, i64_w, i32_w]
        rfl
      refine pure_ (i := 14) (N := some 45) (v := undef) (a' := ?_) #[yy,yy,yy,yy,yy,yy,yy,yy,yy,yy,yy,yy,yy,yy,yy,nn,nn] rfl rfl (any_of HT_.out (by kernel_rfl)) (fun _ _ _ h => h) (Or.inr ⟨by rfl, rfl⟩) ?_ ?_
      rotate_left
      · simp only [Act.put, tA, tB, tC, i64_w, i32_w]
        rfl
      refine pure_ (i := 15) (N := some 46) (v := undef) (a' := ?_) #[yy,yy,yy,yy,yy,yy,yy,yy,yy,yy,yy,yy,yy,yy,yy,yy,nn] rfl rfl (any_of HT_.out (by kernel_rfl)) (fun _ _ _ h => h) (Or.inr ⟨by rfl, rfl⟩) ?_ ?_
      rotate_left
      · simp only [Act.put, tA, tB, tC, i64_w, i32_w]
        rfl
      refine pQ (i := 16) (N := some 47) #[yy,yy,yy,yy,yy,yy,yy,yy,yy,yy,yy,yy,yy,yy,yy,yy,yy] (any_of HT_.out (by kernel_rfl)) ?_
      refine done_ (done_of HT_.out (by kernel_rfl)) ?_
      try go_wp2
      go_meet
      case rel => exact ⟨_, (true), (by first | rfl | (simp; done) | (simp [*]; done)), H', ⟨by first | omega | exact Nat.le_refl _⟩, ⟨by (with_reducible repeat (first | apply Kd.R_alloc | apply Kd.R_drewN | apply Kd.R_drew)); exact Kd.R_mono HO104.out (fun _ hk => ⟨hk.1.2, hk.1.1.2⟩)⟩, ⟨by (with_reducible repeat (first | apply Kd.R_alloc | apply Kd.R_drewN | apply Kd.R_drew)); exact Kd.R_mono HO122.out (fun _ hk => ⟨hk.1.1.2, hk.1.2⟩)⟩, ⟨by (with_reducible repeat (first | apply bkD | apply bkd | apply bkA)); exact BK119.out⟩, ⟨bq HB⟩⟩
    rw [if_neg c15] at H
    have c15b0 : (t123 != t127) = false := by simpa using c15
    (try (have c15b1 : decide (t123 = t127) = true := by simpa using c15))
    (try (have c15b2 : (t123 == t127) = true := by simpa using c15))
    clear c15
    (first | rw [c15b0] | (simp only [i64_w, i32_w]; rw [c15b0]) | skip)
    replace H := Option.bind_eq_some_iff.mp H
    obtain ⟨t128, A170, H⟩ := H
    replace H : ((spec_TaskOk.f t105 t106 t107 t108 t109 t110 t111 t112 t113 t114 t115 t116 t117 t118).bind fun t129 => (if (t128 != t129) = true then (laws_FnTasks.j0 k t102 t120 t123 true t105 t106 t107 t108 t109 t110 t111 t112 t113 t114 t115 t116 t117 t118) else ((impl_TasksOk.f k t102).bind fun t130 => ((spec_TasksOk.f k t102).bind fun t131 => (laws_FnTasks.j0 k t102 t120 t123 (t130 != t131) t105 t106 t107 t108 t109 t110 t111 t112 t113 t114 t115 t116 t117 t118))))) = some r := H
    have A17 := Aside0.mk A170
    clear A170
    replace H := Option.bind_eq_some_iff.mp H
    obtain ⟨t129, A180, H⟩ := H
    replace H : (if (t128 != t129) = true then (laws_FnTasks.j0 k t102 t120 t123 true t105 t106 t107 t108 t109 t110 t111 t112 t113 t114 t115 t116 t117 t118) else ((impl_TasksOk.f k t102).bind fun t130 => ((spec_TasksOk.f k t102).bind fun t131 => (laws_FnTasks.j0 k t102 t120 t123 (t130 != t131) t105 t106 t107 t108 t109 t110 t111 t112 t113 t114 t115 t116 t117 t118)))) = some r := H
    have A18 := Aside0.mk A180
    clear A180
    by_cases c19 : (t128 != t129) = true
    · rw [if_pos c19] at H
      have c19b0 : (t128 != t129) = true := c19
      (try (have c19b1 : decide (t128 = t129) = false := by simpa using c19))
      (try (have c19b2 : (t128 == t129) = false := by simpa using c19))
      (try (have c19b3 : ¬ (t128 = t129) := by simpa using c19))
      clear c19
      have H' := Aside0.mk H
      clear H
      try go_wp2
      have n0_ := aM (Kd.R_drew HO104.out)
      have n1_ := aM (Kd.R_drew HO122.out)
      have n2_ := aM (Kd.R_drew HO126.out)
      have n3_ := aM (blk_drew BK119.out)
      have n4_ := aM (below_drew1 HB.out)
      clear HO104 HO122 HO126 BK119 HB
      have HO104 := n0_
      have HO122 := n1_
      have HO126 := n2_
      have BK119 := n3_
      have HB := n4_
      clear n0_ n1_ n2_ n3_ n4_
      refine start_ (n := 17) (S := fun w' => cb14 w' gb119 (.int .i64 t105) (.int .i64 t106) (.int .i64 t107) (.int .i64 t108) (.bool t109) (.int .i64 t110) (.int .i64 t111) (.int .i64 t112) (.int .i64 t113) (.int .i64 t114) (.int .i64 t115) (.int .i64 t116) (.int .i64 t117) (.int .i64 t118)) (ds := []) #[nn,nn,nn,nn,nn,nn,nn,nn,nn,nn,nn,nn,nn,nn,nn,nn,nn] (by kernel_rfl) rfl rfl ⟨(blk_cell BK119.out 0).trans rfl, (blk_cell BK119.out 1).trans rfl, (blk_cell BK119.out 2).trans rfl, (blk_cell BK119.out 3).trans rfl, (blk_cell BK119.out 4).trans rfl, (blk_cell BK119.out 5).trans rfl, (blk_cell BK119.out 6).trans rfl, (blk_cell BK119.out 7).trans rfl, (blk_cell BK119.out 8).trans rfl, (blk_cell BK119.out 9).trans rfl, (blk_cell BK119.out 10).trans rfl, (blk_cell BK119.out 11).trans rfl, (blk_cell BK119.out 12).trans rfl, (blk_cell BK119.out 13).trans rfl⟩ (fun hHeld => ?_); refine with_tabW laws_FnTasks.tab6 laws_FnTasks.bits6 (fun HT_ HW_ => ?_)
      generalize w14.drew = w20 at HO104 HO122 HO126 BK119 HB hHeld ⊢
      refine pQ (i := 0) (N := some 31) #[yy,nn,nn,nn,nn,nn,nn,nn,nn,nn,nn,nn,nn,nn,nn,nn,nn] (any_of HT_.out (by kernel_rfl)) ?_
      refine pQ (i := 1) (N := some 32) #[yy,yy,nn,nn,nn,nn,nn,nn,nn,nn,nn,nn,nn,nn,nn,nn,nn] (any_of HT_.out (by kernel_rfl)) ?_
      refine pQ (i := 2) (N := some 33) #[yy,yy,yy,nn,nn,nn,nn,nn,nn,nn,nn,nn,nn,nn,nn,nn,nn] (any_of HT_.out (by kernel_rfl)) ?_
      refine pQ (i := 3) (N := some 34) #[yy,yy,yy,yy,nn,nn,nn,nn,nn,nn,nn,nn,nn,nn,nn,nn,nn] (any_of HT_.out (by kernel_rfl)) ?_
      refine tQ (i := 4) (N := some 35) #[yy,yy,yy,yy,yy,nn,nn,nn,nn,nn,nn,nn,nn,nn,nn,nn,nn] (take_ofW HT_.out HW_.out (by kernel_rfl)) hHeld ?_
      refine tQ (i := 6) (N := some 37) #[yy,yy,yy,yy,yy,nn,yy,nn,nn,nn,nn,nn,nn,nn,nn,nn,nn] (take_ofW HT_.out HW_.out (by kernel_rfl)) hHeld ?_
      refine one_ (i := 5) (N := some 36) #[yy,yy,yy,yy,yy,yy,yy,nn,nn,nn,nn,nn,nn,nn,nn,nn,nn] rfl rfl (one_of HT_.out (by kernel_rfl)) (by decide) (fun K hK => ?_)
      refine goes_ Try.func15 (by kernel_rfl) rfl #[.agg #[.int .i64 t105, .int .i64 t106, .int .i64 t107, .int .i64 t108, .bool t109, .int .i64 t110, .int .i64 t111, .int .i64 t112, .int .i64 t113, .int .i64 t114, .int .i64 t115, .int .i64 t116, .int .i64 t117, .int .i64 t118]] (by rfl) rfl rfl (by (try simp only [List.map_toArray, List.map_cons, List.map_nil]); first | done | rfl | (simp only [List.length_drop, List.length_take]; rfl)) ?_
      with_reducible refine (impl_TaskOk.calls t105 t106 t107 t108 t109 t110 t111 t112 t113 t114 t115 t116 t117 t118 t128 _ A17.out).mono ?_
      rintro e w21 ⟨rfl, hb⟩
      refine ⟨_, rfl, ?_⟩
      have n0_ := aM (Kd.R_below (rq HO104) hb)
      have n1_ := aM (Kd.R_below (rq HO122) hb)
      have n2_ := aM (Kd.R_below (rq HO126) hb)
      have n3_ := aM (blk_below (kq BK119) hb)
      have n4_ := aM (below_step (bq HB) hb)
      clear HO104 HO122 HO126 BK119 HB
      have HO104 := n0_
      have HO122 := n1_
      have HO126 := n2_
      have BK119 := n3_
      have HB := n4_
      clear n0_ n1_ n2_ n3_ n4_
      (try clear hb)
      (try clear hb2)
      (try clear hk)
      (try clear hi)
      refine hK.out _ _ ⟨(blk_cell BK119.out 0).trans rfl, (blk_cell BK119.out 1).trans rfl, (blk_cell BK119.out 2).trans rfl, (blk_cell BK119.out 3).trans rfl, (blk_cell BK119.out 4).trans rfl, (blk_cell BK119.out 5).trans rfl, (blk_cell BK119.out 6).trans rfl, (blk_cell BK119.out 7).trans rfl, (blk_cell BK119.out 8).trans rfl, (blk_cell BK119.out 9).trans rfl, (blk_cell BK119.out 10).trans rfl, (blk_cell BK119.out 11).trans rfl, (blk_cell BK119.out 12).trans rfl, (blk_cell BK119.out 13).trans rfl⟩ (fun hHeld => ?_)
      clear hK K
      refine nQ (N := some 36) ?_
      refine one_ (i := 7) (N := some 38) #[yy,yy,yy,yy,yy,yy,yy,yy,nn,nn,nn,nn,nn,nn,nn,nn,nn] rfl rfl (one_of HT_.out (by kernel_rfl)) (by decide) (fun K hK => ?_)
      refine goes_ Try.func16 (by kernel_rfl) rfl #[.agg #[.int .i64 t105, .int .i64 t106, .int .i64 t107, .int .i64 t108, .bool t109, .int .i64 t110, .int .i64 t111, .int .i64 t112, .int .i64 t113, .int .i64 t114, .int .i64 t115, .int .i64 t116, .int .i64 t117, .int .i64 t118]] (by rfl) rfl rfl (by (try simp only [List.map_toArray, List.map_cons, List.map_nil]); first | done | rfl | (simp only [List.length_drop, List.length_take]; rfl)) ?_
      with_reducible refine (spec_TaskOk.calls t105 t106 t107 t108 t109 t110 t111 t112 t113 t114 t115 t116 t117 t118 t129 _ A18.out).mono ?_
      rintro e w22 ⟨rfl, hb⟩
      refine ⟨_, rfl, ?_⟩
      have n0_ := aM (Kd.R_below (rq HO104) hb)
      have n1_ := aM (Kd.R_below (rq HO122) hb)
      have n2_ := aM (Kd.R_below (rq HO126) hb)
      have n3_ := aM (blk_below (kq BK119) hb)
      have n4_ := aM (below_step (bq HB) hb)
      clear HO104 HO122 HO126 BK119 HB
      have HO104 := n0_
      have HO122 := n1_
      have HO126 := n2_
      have BK119 := n3_
      have HB := n4_
      clear n0_ n1_ n2_ n3_ n4_
      (try clear hb)
      (try clear hb2)
      (try clear hk)
      (try clear hi)
      refine hK.out _ _ ⟨(blk_cell BK119.out 0).trans rfl, (blk_cell BK119.out 1).trans rfl, (blk_cell BK119.out 2).trans rfl, (blk_cell BK119.out 3).trans rfl, (blk_cell BK119.out 4).trans rfl, (blk_cell BK119.out 5).trans rfl, (blk_cell BK119.out 6).trans rfl, (blk_cell BK119.out 7).trans rfl, (blk_cell BK119.out 8).trans rfl, (blk_cell BK119.out 9).trans rfl, (blk_cell BK119.out 10).trans rfl, (blk_cell BK119.out 11).trans rfl, (blk_cell BK119.out 12).trans rfl, (blk_cell BK119.out 13).trans rfl⟩ (fun hHeld => ?_)
      clear hK K
      refine nQ (N := some 38) ?_
      refine pQ (i := 8) (N := some 39) #[yy,yy,yy,yy,yy,yy,yy,yy,yy,nn,nn,nn,nn,nn,nn,nn,nn] (any_of HT_.out (by kernel_rfl)) ?_
      refine pQ (i := 9) (N := some 40) #[yy,yy,yy,yy,yy,yy,yy,yy,yy,yy,nn,nn,nn,nn,nn,nn,nn] (any_of HT_.out (by kernel_rfl)) ?_
      refine pQ (i := 10) (N := some 41) #[yy,yy,yy,yy,yy,yy,yy,yy,yy,yy,yy,nn,nn,nn,nn,nn,nn] (any_of HT_.out (by kernel_rfl)) ?_
      refine pure_ (i := 11) (N := some 42) (v := undef) (a' := ?_) #[yy,yy,yy,yy,yy,yy,yy,yy,yy,yy,yy,yy,nn,nn,nn,nn,nn] rfl rfl (any_of HT_.out (by kernel_rfl)) (fun _ _ _ h => h) (Or.inr ⟨by rfl, rfl⟩) ?_ ?_
      rotate_left
      · simp only [Act.put, tA, tB, tC, i64_w, i32_w]
        rfl
      refine pure_ (i := 12) (N := some 43) (v := undef) (a' := ?_) #[yy,yy,yy,yy,yy,yy,yy,yy,yy,yy,yy,yy,yy,nn,nn,nn,nn] rfl rfl (any_of HT_.out (by kernel_rfl)) (fun _ _ _ h => h) (Or.inr ⟨by rfl, rfl⟩) ?_ ?_
      rotate_left
      · simp only [Act.put, tA, tB, tC, i64_w, i32_w]
        rfl
      refine pure_ (i := 13) (N := some 44) (v := undef) (a' := ?_) #[yy,yy,yy,yy,yy,yy,yy,yy,yy,yy,yy,yy,yy,yy,nn,nn,nn] rfl rfl (any_of HT_.out (by kernel_rfl)) (fun _ _ _ h => h) (Or.inr ⟨by rfl, rfl⟩) ?_ ?_
      rotate_left
      · simp only [Act.put, tA, tB, tC, i64_w, i32_w]
        rfl
      refine pure_ (i := 14) (N := some 45) (v := undef) (a' := ?_) #[yy,yy,yy,yy,yy,yy,yy,yy,yy,yy,yy,yy,yy,yy,yy,nn,nn] rfl rfl (any_of HT_.out (by kernel_rfl)) (fun _ _ _ h => h) (Or.inr ⟨by rfl, rfl⟩) ?_ ?_
      rotate_left
      · simp only [Act.put, tA, tB, tC, i64_w, i32_w]
        rfl
      refine pure_ (i := 15) (N := some 46) (v := undef) (a' := ?_) #[yy,yy,yy,yy,yy,yy,yy,yy,yy,yy,yy,yy,yy,yy,yy,yy,nn] rfl rfl (any_of HT_.out (by kernel_rfl)) (fun _ _ _ h => h) (Or.inr ⟨by rfl, rfl⟩) ?_ ?_
      rotate_left
      · simp only [Act.put, tA, tB, tC, i64_w, i32_w]
        rfl
      refine pQ (i := 16) (N := some 47) #[yy,yy,yy,yy,yy,yy,yy,yy,yy,yy,yy,yy,yy,yy,yy,yy,yy] (any_of HT_.out (by kernel_rfl)) ?_
      refine done_ (done_of HT_.out (by kernel_rfl)) ?_
      try go_wp2
      go_meet
      case rel => exact ⟨_, (true), (by first | rfl | (simp; done) | (simp [*]; done)), H', ⟨by first | omega | exact Nat.le_refl _⟩, ⟨by (with_reducible repeat (first | apply Kd.R_alloc | apply Kd.R_drewN | apply Kd.R_drew)); exact Kd.R_mono HO104.out (fun _ hk => ⟨hk.1.2, hk.1.1.2⟩)⟩, ⟨by (with_reducible repeat (first | apply Kd.R_alloc | apply Kd.R_drewN | apply Kd.R_drew)); exact Kd.R_mono HO122.out (fun _ hk => ⟨hk.1.1.2, hk.1.2⟩)⟩, ⟨by (with_reducible repeat (first | apply bkD | apply bkd | apply bkA)); exact BK119.out⟩, ⟨bq HB⟩⟩
    rw [if_neg c19] at H
    have c19b0 : (t128 != t129) = false := by simpa using c19
    (try (have c19b1 : decide (t128 = t129) = true := by simpa using c19))
    (try (have c19b2 : (t128 == t129) = true := by simpa using c19))
    clear c19
    replace H := Option.bind_eq_some_iff.mp H
    obtain ⟨t130, A230, H⟩ := H
    replace H : ((spec_TasksOk.f k t102).bind fun t131 => (laws_FnTasks.j0 k t102 t120 t123 (t130 != t131) t105 t106 t107 t108 t109 t110 t111 t112 t113 t114 t115 t116 t117 t118)) = some r := H
    have A23 := Aside0.mk A230
    clear A230
    replace H := Option.bind_eq_some_iff.mp H
    obtain ⟨t131, A240, H⟩ := H
    replace H : (laws_FnTasks.j0 k t102 t120 t123 (t130 != t131) t105 t106 t107 t108 t109 t110 t111 t112 t113 t114 t115 t116 t117 t118) = some r := H
    have A24 := Aside0.mk A240
    clear A240
    have H' := Aside0.mk H
    clear H
    try go_wp2
    have n0_ := aM (Kd.R_drew HO104.out)
    have n1_ := aM (Kd.R_drew HO122.out)
    have n2_ := aM (Kd.R_drew HO126.out)
    have n3_ := aM (blk_drew BK119.out)
    have n4_ := aM (below_drew1 HB.out)
    clear HO104 HO122 HO126 BK119 HB
    have HO104 := n0_
    have HO122 := n1_
    have HO126 := n2_
    have BK119 := n3_
    have HB := n4_
    clear n0_ n1_ n2_ n3_ n4_
    refine start_ (n := 17) (S := fun w' => cb14 w' gb119 (.int .i64 t105) (.int .i64 t106) (.int .i64 t107) (.int .i64 t108) (.bool t109) (.int .i64 t110) (.int .i64 t111) (.int .i64 t112) (.int .i64 t113) (.int .i64 t114) (.int .i64 t115) (.int .i64 t116) (.int .i64 t117) (.int .i64 t118)) (ds := []) #[nn,nn,nn,nn,nn,nn,nn,nn,nn,nn,nn,nn,nn,nn,nn,nn,nn] (by kernel_rfl) rfl rfl ⟨(blk_cell BK119.out 0).trans rfl, (blk_cell BK119.out 1).trans rfl, (blk_cell BK119.out 2).trans rfl, (blk_cell BK119.out 3).trans rfl, (blk_cell BK119.out 4).trans rfl, (blk_cell BK119.out 5).trans rfl, (blk_cell BK119.out 6).trans rfl, (blk_cell BK119.out 7).trans rfl, (blk_cell BK119.out 8).trans rfl, (blk_cell BK119.out 9).trans rfl, (blk_cell BK119.out 10).trans rfl, (blk_cell BK119.out 11).trans rfl, (blk_cell BK119.out 12).trans rfl, (blk_cell BK119.out 13).trans rfl⟩ (fun hHeld => ?_); refine with_tabW laws_FnTasks.tab6 laws_FnTasks.bits6 (fun HT_ HW_ => ?_)
    generalize w14.drew = w25 at HO104 HO122 HO126 BK119 HB hHeld ⊢
    refine pQ (i := 0) (N := some 31) #[yy,nn,nn,nn,nn,nn,nn,nn,nn,nn,nn,nn,nn,nn,nn,nn,nn] (any_of HT_.out (by kernel_rfl)) ?_
    refine pQ (i := 1) (N := some 32) #[yy,yy,nn,nn,nn,nn,nn,nn,nn,nn,nn,nn,nn,nn,nn,nn,nn] (any_of HT_.out (by kernel_rfl)) ?_
    refine pQ (i := 2) (N := some 33) #[yy,yy,yy,nn,nn,nn,nn,nn,nn,nn,nn,nn,nn,nn,nn,nn,nn] (any_of HT_.out (by kernel_rfl)) ?_
    refine pQ (i := 3) (N := some 34) #[yy,yy,yy,yy,nn,nn,nn,nn,nn,nn,nn,nn,nn,nn,nn,nn,nn] (any_of HT_.out (by kernel_rfl)) ?_
    refine tQ (i := 4) (N := some 35) #[yy,yy,yy,yy,yy,nn,nn,nn,nn,nn,nn,nn,nn,nn,nn,nn,nn] (take_ofW HT_.out HW_.out (by kernel_rfl)) hHeld ?_
    refine tQ (i := 6) (N := some 37) #[yy,yy,yy,yy,yy,nn,yy,nn,nn,nn,nn,nn,nn,nn,nn,nn,nn] (take_ofW HT_.out HW_.out (by kernel_rfl)) hHeld ?_
    refine one_ (i := 5) (N := some 36) #[yy,yy,yy,yy,yy,yy,yy,nn,nn,nn,nn,nn,nn,nn,nn,nn,nn] rfl rfl (one_of HT_.out (by kernel_rfl)) (by decide) (fun K hK => ?_)
    refine goes_ Try.func15 (by kernel_rfl) rfl #[.agg #[.int .i64 t105, .int .i64 t106, .int .i64 t107, .int .i64 t108, .bool t109, .int .i64 t110, .int .i64 t111, .int .i64 t112, .int .i64 t113, .int .i64 t114, .int .i64 t115, .int .i64 t116, .int .i64 t117, .int .i64 t118]] (by rfl) rfl rfl (by (try simp only [List.map_toArray, List.map_cons, List.map_nil]); first | done | rfl | (simp only [List.length_drop, List.length_take]; rfl)) ?_
    with_reducible refine (impl_TaskOk.calls t105 t106 t107 t108 t109 t110 t111 t112 t113 t114 t115 t116 t117 t118 t128 _ A17.out).mono ?_
    rintro e w26 ⟨rfl, hb⟩
    refine ⟨_, rfl, ?_⟩
    have n0_ := aM (Kd.R_below (rq HO104) hb)
    have n1_ := aM (Kd.R_below (rq HO122) hb)
    have n2_ := aM (Kd.R_below (rq HO126) hb)
    have n3_ := aM (blk_below (kq BK119) hb)
    have n4_ := aM (below_step (bq HB) hb)
    clear HO104 HO122 HO126 BK119 HB
    have HO104 := n0_
    have HO122 := n1_
    have HO126 := n2_
    have BK119 := n3_
    have HB := n4_
    clear n0_ n1_ n2_ n3_ n4_
    (try clear hb)
    (try clear hb2)
    (try clear hk)
    (try clear hi)
    refine hK.out _ _ ⟨(blk_cell BK119.out 0).trans rfl, (blk_cell BK119.out 1).trans rfl, (blk_cell BK119.out 2).trans rfl, (blk_cell BK119.out 3).trans rfl, (blk_cell BK119.out 4).trans rfl, (blk_cell BK119.out 5).trans rfl, (blk_cell BK119.out 6).trans rfl, (blk_cell BK119.out 7).trans rfl, (blk_cell BK119.out 8).trans rfl, (blk_cell BK119.out 9).trans rfl, (blk_cell BK119.out 10).trans rfl, (blk_cell BK119.out 11).trans rfl, (blk_cell BK119.out 12).trans rfl, (blk_cell BK119.out 13).trans rfl⟩ (fun hHeld => ?_)
    clear hK K
    refine nQ (N := some 36) ?_
    refine one_ (i := 7) (N := some 38) #[yy,yy,yy,yy,yy,yy,yy,yy,nn,nn,nn,nn,nn,nn,nn,nn,nn] rfl rfl (one_of HT_.out (by kernel_rfl)) (by decide) (fun K hK => ?_)
    refine goes_ Try.func16 (by kernel_rfl) rfl #[.agg #[.int .i64 t105, .int .i64 t106, .int .i64 t107, .int .i64 t108, .bool t109, .int .i64 t110, .int .i64 t111, .int .i64 t112, .int .i64 t113, .int .i64 t114, .int .i64 t115, .int .i64 t116, .int .i64 t117, .int .i64 t118]] (by rfl) rfl rfl (by (try simp only [List.map_toArray, List.map_cons, List.map_nil]); first | done | rfl | (simp only [List.length_drop, List.length_take]; rfl)) ?_
    with_reducible refine (spec_TaskOk.calls t105 t106 t107 t108 t109 t110 t111 t112 t113 t114 t115 t116 t117 t118 t129 _ A18.out).mono ?_
    rintro e w27 ⟨rfl, hb⟩
    refine ⟨_, rfl, ?_⟩
    have n0_ := aM (Kd.R_below (rq HO104) hb)
    have n1_ := aM (Kd.R_below (rq HO122) hb)
    have n2_ := aM (Kd.R_below (rq HO126) hb)
    have n3_ := aM (blk_below (kq BK119) hb)
    have n4_ := aM (below_step (bq HB) hb)
    clear HO104 HO122 HO126 BK119 HB
    have HO104 := n0_
    have HO122 := n1_
    have HO126 := n2_
    have BK119 := n3_
    have HB := n4_
    clear n0_ n1_ n2_ n3_ n4_
    (try clear hb)
    (try clear hb2)
    (try clear hk)
    (try clear hi)
    refine hK.out _ _ ⟨(blk_cell BK119.out 0).trans rfl, (blk_cell BK119.out 1).trans rfl, (blk_cell BK119.out 2).trans rfl, (blk_cell BK119.out 3).trans rfl, (blk_cell BK119.out 4).trans rfl, (blk_cell BK119.out 5).trans rfl, (blk_cell BK119.out 6).trans rfl, (blk_cell BK119.out 7).trans rfl, (blk_cell BK119.out 8).trans rfl, (blk_cell BK119.out 9).trans rfl, (blk_cell BK119.out 10).trans rfl, (blk_cell BK119.out 11).trans rfl, (blk_cell BK119.out 12).trans rfl, (blk_cell BK119.out 13).trans rfl⟩ (fun hHeld => ?_)
    clear hK K
    refine nQ (N := some 38) ?_
    refine pQ (i := 8) (N := some 39) #[yy,yy,yy,yy,yy,yy,yy,yy,yy,nn,nn,nn,nn,nn,nn,nn,nn] (any_of HT_.out (by kernel_rfl)) ?_
    refine pQ (i := 9) (N := some 40) #[yy,yy,yy,yy,yy,yy,yy,yy,yy,yy,nn,nn,nn,nn,nn,nn,nn] (any_of HT_.out (by kernel_rfl)) ?_
    refine pQ (i := 10) (N := some 41) #[yy,yy,yy,yy,yy,yy,yy,yy,yy,yy,yy,nn,nn,nn,nn,nn,nn] (any_of HT_.out (by kernel_rfl)) ?_
    refine pQ (i := 11) (N := some 42) #[yy,yy,yy,yy,yy,yy,yy,yy,yy,yy,yy,yy,nn,nn,nn,nn,nn] (any_of HT_.out (by kernel_rfl)) ?_
    refine pQ (i := 13) (N := some 44) #[yy,yy,yy,yy,yy,yy,yy,yy,yy,yy,yy,yy,nn,yy,nn,nn,nn] (any_of HT_.out (by kernel_rfl)) ?_
    refine one_ (i := 12) (N := some 43) #[yy,yy,yy,yy,yy,yy,yy,yy,yy,yy,yy,yy,yy,yy,nn,nn,nn] rfl rfl (one_of HT_.out (by kernel_rfl)) (by decide) (fun K hK => ?_)
    refine goes_ Try.func17 (by kernel_rfl) rfl #[.slice Ao11 t102.length co11] (by rfl) rfl rfl (by (try simp only [List.map_toArray, List.map_cons, List.map_nil]); first | done | rfl | (simp only [List.length_drop, List.length_take]; rfl)) ?_
    with_reducible refine (impl_TasksOk.calls k _ _ t102 t130 _ ?side1 ?side2 A23.out).mono ?_
    (case side1 => repeat (first | exact (Kd.R_reads' HO104.out).2.2 | (with_reducible refine Kd.C_alloc ?_ _) | (with_reducible refine Kd.C_drewN ?_ _) | (with_reducible refine Kd.C_drew ?_)))
    (case side2 => exact (Kd.R_reads' HO104.out).2.1)
    rintro e w28 ⟨rfl, hb⟩
    refine ⟨_, rfl, ?_⟩
    have n0_ := aM (Kd.R_below (rq HO104) hb)
    have n1_ := aM (Kd.R_below (rq HO122) hb)
    have n2_ := aM (Kd.R_below (rq HO126) hb)
    have n3_ := aM (blk_below (kq BK119) hb)
    have n4_ := aM (below_step (bq HB) hb)
    clear HO104 HO122 HO126 BK119 HB
    have HO104 := n0_
    have HO122 := n1_
    have HO126 := n2_
    have BK119 := n3_
    have HB := n4_
    clear n0_ n1_ n2_ n3_ n4_
    (try clear hb)
    (try clear hb2)
    (try clear hk)
    (try clear hi)
    refine hK.out _ _ ⟨(blk_cell BK119.out 0).trans rfl, (blk_cell BK119.out 1).trans rfl, (blk_cell BK119.out 2).trans rfl, (blk_cell BK119.out 3).trans rfl, (blk_cell BK119.out 4).trans rfl, (blk_cell BK119.out 5).trans rfl, (blk_cell BK119.out 6).trans rfl, (blk_cell BK119.out 7).trans rfl, (blk_cell BK119.out 8).trans rfl, (blk_cell BK119.out 9).trans rfl, (blk_cell BK119.out 10).trans rfl, (blk_cell BK119.out 11).trans rfl, (blk_cell BK119.out 12).trans rfl, (blk_cell BK119.out 13).trans rfl⟩ (fun hHeld => ?_)
    clear hK K
    refine nQ (N := some 43) ?_
    refine one_ (i := 14) (N := some 45) #[yy,yy,yy,yy,yy,yy,yy,yy,yy,yy,yy,yy,yy,yy,yy,nn,nn] rfl rfl (one_of HT_.out (by kernel_rfl)) (by decide) (fun K hK => ?_)
    refine goes_ Try.func18 (by kernel_rfl) rfl #[.slice Ao11 t102.length co11] (by rfl) rfl rfl (by (try simp only [List.map_toArray, List.map_cons, List.map_nil]); first | done | rfl | (simp only [List.length_drop, List.length_take]; rfl)) ?_
    with_reducible refine (spec_TasksOk.calls k _ _ t102 t131 _ ?side1 ?side2 A24.out).mono ?_
    (case side1 => repeat (first | exact (Kd.R_reads' HO104.out).2.2 | (with_reducible refine Kd.C_alloc ?_ _) | (with_reducible refine Kd.C_drewN ?_ _) | (with_reducible refine Kd.C_drew ?_)))
    (case side2 => exact (Kd.R_reads' HO104.out).2.1)
    rintro e w29 ⟨rfl, hb⟩
    refine ⟨_, rfl, ?_⟩
    have n0_ := aM (Kd.R_below (rq HO104) hb)
    have n1_ := aM (Kd.R_below (rq HO122) hb)
    have n2_ := aM (Kd.R_below (rq HO126) hb)
    have n3_ := aM (blk_below (kq BK119) hb)
    have n4_ := aM (below_step (bq HB) hb)
    clear HO104 HO122 HO126 BK119 HB
    have HO104 := n0_
    have HO122 := n1_
    have HO126 := n2_
    have BK119 := n3_
    have HB := n4_
    clear n0_ n1_ n2_ n3_ n4_
    (try clear hb)
    (try clear hb2)
    (try clear hk)
    (try clear hi)
    refine hK.out _ _ ⟨(blk_cell BK119.out 0).trans rfl, (blk_cell BK119.out 1).trans rfl, (blk_cell BK119.out 2).trans rfl, (blk_cell BK119.out 3).trans rfl, (blk_cell BK119.out 4).trans rfl, (blk_cell BK119.out 5).trans rfl, (blk_cell BK119.out 6).trans rfl, (blk_cell BK119.out 7).trans rfl, (blk_cell BK119.out 8).trans rfl, (blk_cell BK119.out 9).trans rfl, (blk_cell BK119.out 10).trans rfl, (blk_cell BK119.out 11).trans rfl, (blk_cell BK119.out 12).trans rfl, (blk_cell BK119.out 13).trans rfl⟩ (fun hHeld => ?_)
    clear hK K
    refine nQ (N := some 45) ?_
    refine pQ (i := 15) (N := some 46) #[yy,yy,yy,yy,yy,yy,yy,yy,yy,yy,yy,yy,yy,yy,yy,yy,nn] (any_of HT_.out (by kernel_rfl)) ?_
    refine pQ (i := 16) (N := some 47) #[yy,yy,yy,yy,yy,yy,yy,yy,yy,yy,yy,yy,yy,yy,yy,yy,yy] (any_of HT_.out (by kernel_rfl)) ?_
    refine done_ (done_of HT_.out (by kernel_rfl)) ?_
    try go_wp2
    go_meet
    case rel => exact ⟨_, ((t130 != t131)), (by first | rfl | (simp; done) | (simp [*]; done)), H', ⟨by first | omega | exact Nat.le_refl _⟩, ⟨by (with_reducible repeat (first | apply Kd.R_alloc | apply Kd.R_drewN | apply Kd.R_drew)); exact Kd.R_mono HO104.out (fun _ hk => ⟨hk.1.2, hk.1.1.2⟩)⟩, ⟨by (with_reducible repeat (first | apply Kd.R_alloc | apply Kd.R_drewN | apply Kd.R_drew)); exact Kd.R_mono HO122.out (fun _ hk => ⟨hk.1.1.2, hk.1.2⟩)⟩, ⟨by (with_reducible repeat (first | apply bkD | apply bkd | apply bkA)); exact BK119.out⟩, ⟨bq HB⟩⟩
  case rest =>
    clear HC7
    try clear c1
    try clear p2
    try clear c15
    try clear c15b0
    try clear c15b1
    try clear c15b2
    try clear c16
    try clear c17
    try clear c18
    try clear c19
    try clear c19b0
    try clear c19b1
    try clear c19b2
    obtain ⟨kq, x47_6, rfl, HA, HJ6, HO_3, HO_5, BK119, HB⟩ := hcut
    cases kq with
    | zero => exact absurd HA.out (by simp [laws_FnTasks.j0])
    | succ kj6 =>
      have H := HA.out
      clear HA
      simp only [laws_FnTasks.j0] at H
      by_cases c30 : x47_6 = true
      · subst c30
        have H1 : (some false) = some r := by rw [if_pos rfl] at H; exact H
        clear H
        have H := H1
        clear H1
        exact absurd ((Option.some.inj H).trans HRT.out) Bool.false_ne_true
      replace c30 := Bool.eq_false_iff.mpr c30
      subst c30
      have H1 : (if t123 = true then ((impl_TaskAt.f t120 t105).bind fun t132 => (if t132 < 0 then (laws_FnTasks.j1 kj6 t102 t120 true) else (if 0 ≤ t132 then (if t132 < (t120.length : Int) then (if (!(((rd_T30 t120 t132).f0) == t105) || (!(((rd_T30 t120 t132).f1) == t106) || (!(((rd_T30 t120 t132).f2) == t107) || (!(((rd_T30 t120 t132).f3) == t108) || (!(((rd_T30 t120 t132).f4) == t109) || (!(((rd_T30 t120 t132).f5) == t110) || (!(((rd_T30 t120 t132).f6) == t111) || (!(((rd_T30 t120 t132).f7) == t112) || (!(((rd_T30 t120 t132).f8) == t113) || (!(((rd_T30 t120 t132).f9) == t114) || (!(((rd_T30 t120 t132).f10) == t115) || (!(((rd_T30 t120 t132).f11) == t116) || (!(((rd_T30 t120 t132).f12) == t117) || (!(((rd_T30 t120 t132).f13) == t118))))))))))))))) = true then (laws_FnTasks.j1 kj6 t102 t120 true) else ((impl_TaskAt.f t102 t105).bind fun t134 => (laws_FnTasks.j1 kj6 t102 t120 (decide (t134 ≥ 0))))) else (none)) else (none)))) else (if (t120.length : Int) = (t102.length : Int) then (some true) else (some ((t120.length : Int) == 0)))) = some r := by rw [if_neg (show ¬ (false = true) by decide)] at H; exact H
      clear H
      have H := H1
      clear H1
      by_cases c31 : t123 = true
      · subst c31
        have H1 : ((impl_TaskAt.f t120 t105).bind fun t132 => (if t132 < 0 then (laws_FnTasks.j1 kj6 t102 t120 true) else (if 0 ≤ t132 then (if t132 < (t120.length : Int) then (if (!(((rd_T30 t120 t132).f0) == t105) || (!(((rd_T30 t120 t132).f1) == t106) || (!(((rd_T30 t120 t132).f2) == t107) || (!(((rd_T30 t120 t132).f3) == t108) || (!(((rd_T30 t120 t132).f4) == t109) || (!(((rd_T30 t120 t132).f5) == t110) || (!(((rd_T30 t120 t132).f6) == t111) || (!(((rd_T30 t120 t132).f7) == t112) || (!(((rd_T30 t120 t132).f8) == t113) || (!(((rd_T30 t120 t132).f9) == t114) || (!(((rd_T30 t120 t132).f10) == t115) || (!(((rd_T30 t120 t132).f11) == t116) || (!(((rd_T30 t120 t132).f12) == t117) || (!(((rd_T30 t120 t132).f13) == t118))))))))))))))) = true then (laws_FnTasks.j1 kj6 t102 t120 true) else ((impl_TaskAt.f t102 t105).bind fun t134 => (laws_FnTasks.j1 kj6 t102 t120 (decide (t134 ≥ 0))))) else (none)) else (none)))) = some r := by rw [if_pos rfl] at H; exact H
        clear H
        have H := H1
        clear H1
        replace H := Option.bind_eq_some_iff.mp H
        obtain ⟨t132, A320, H⟩ := H
        replace H : (if t132 < 0 then (laws_FnTasks.j1 kj6 t102 t120 true) else (if 0 ≤ t132 then (if t132 < (t120.length : Int) then (if (!(((rd_T30 t120 t132).f0) == t105) || (!(((rd_T30 t120 t132).f1) == t106) || (!(((rd_T30 t120 t132).f2) == t107) || (!(((rd_T30 t120 t132).f3) == t108) || (!(((rd_T30 t120 t132).f4) == t109) || (!(((rd_T30 t120 t132).f5) == t110) || (!(((rd_T30 t120 t132).f6) == t111) || (!(((rd_T30 t120 t132).f7) == t112) || (!(((rd_T30 t120 t132).f8) == t113) || (!(((rd_T30 t120 t132).f9) == t114) || (!(((rd_T30 t120 t132).f10) == t115) || (!(((rd_T30 t120 t132).f11) == t116) || (!(((rd_T30 t120 t132).f12) == t117) || (!(((rd_T30 t120 t132).f13) == t118))))))))))))))) = true then (laws_FnTasks.j1 kj6 t102 t120 true) else ((impl_TaskAt.f t102 t105).bind fun t134 => (laws_FnTasks.j1 kj6 t102 t120 (decide (t134 ≥ 0))))) else (none)) else (none))) = some r := H
        have A32 := Aside0.mk A320
        clear A320
        have HC33 := Aside0.mk H
        clear H
        obtain ⟨_,_,_,_,_,_,_,_,_,_,_,_,_,_⟩ := cz14 BK119.out
        have hfz34_0 := blk_frozen BK119.out
        obtain ⟨Ao35, co35, eo35⟩ := Kd.R_slice HO_5.out
        subst eo35
        go_upto_region 11 with (first | ((with_reducible refine gate_callee (f := 19) rfl ?_); refine gL (some 63) Try.func19 #[.slice Ao35 t120.length co35, .int .i64 t105] ?_; (with_reducible refine (impl_TaskAt.calls _ _ t120 t105 t132 _ ?side1 ?side2 A32.out).mono ?_); (case side1 => repeat (first | exact (Kd.R_reads' HO_5.out).2.2 | (with_reducible refine Kd.C_alloc ?_ _) | (with_reducible refine Kd.C_drewN ?_ _) | (with_reducible refine Kd.C_drew ?_))); (case side2 => exact (Kd.R_reads' HO_5.out).2.1); rintro e w36 ⟨rfl, hb⟩; refine ⟨_, rfl, ?_⟩; have n0_ := aM (Kd.R_below (rq HO_3) hb); have n1_ := aM (Kd.R_below (rq HO_5) hb); have n2_ := aM (blk_below (kq BK119) hb); have n3_ := aM (below_step (bq HB) hb); clear HO_3 HO_5 BK119 HB; have HO_3 := n0_; have HO_5 := n1_; have BK119 := n2_; have HB := n3_; clear n0_ n1_ n2_ n3_; (try clear hb); (try clear hb2); (try clear hk); (try clear hi)))
        (try simp only [Act.put, tA, tB, tC])
        go_cut [80] (fun v80 wc => ∃ (kq : Nat) (x80_32 : Bool), v80 = .bool x80_32 ∧ Aside0 (laws_FnTasks.j1 kq t102 t120 x80_32 = some r) ∧ Aside0 (kq ≤ kj6) ∧ Aside0 (Kd.R k30 30 wc w.heap.size (fun k_ => some k_ ≠ ((.slice Ao35 t120.length co35) : Value).ownBlock ∧ k_ ≠ gb119) (.slice Ao11 t102.length co11) t102) ∧ Aside0 (Kd.R k30 30 wc w.heap.size (fun k_ => some k_ ≠ ((.slice Ao11 t102.length co11) : Value).ownBlock ∧ k_ ≠ gb119) (.slice Ao35 t120.length co35) t120) ∧ Aside0 (wc.heap[gb119]? = some (.cells #[.int .i64 t105, .int .i64 t106, .int .i64 t107, .int .i64 t108, .bool t109, .int .i64 t110, .int .i64 t111, .int .i64 t112, .int .i64 t113, .int .i64 t114, .int .i64 t115, .int .i64 t116, .int .i64 t117, .int .i64 t118] 30 (0, 0))) ∧ Aside0 (Below w.heap.size w wc))
        case first =>
          have H := HC33.out
          clear HC33
          by_cases c37 : t132 < 0
          · rw [if_pos c37] at H
            have c37b0 : decide (t132 < 0) = true := decide_eq_true c37
            clear c37
            (first | rw [c37b0] | (simp only [i64_w, i32_w]; rw [c37b0]) | skip)
            have H' := Aside0.mk H
            clear H
            try go_wp2
            have n0_ := aM (Kd.R_drew HO_3.out)
            have n1_ := aM (Kd.R_drew HO_5.out)
            have n2_ := aM (blk_drew BK119.out)
            have n3_ := aM (below_drew1 HB.out)
            clear HO_3 HO_5 BK119 HB
            have HO_3 := n0_
            have HO_5 := n1_
            have BK119 := n2_
            have HB := n3_
            clear n0_ n1_ n2_ n3_
            refine start_ (n := 17) (S := fun w' => True) (ds := []) #[nn,nn,nn,nn,nn,nn,nn,nn,nn,nn,nn,nn,nn,nn,nn,nn,nn] (by kernel_rfl) rfl rfl trivial (fun hHeld => ?_); refine with_tabW laws_FnTasks.tab11 laws_FnTasks.bits11 (fun HT_ HW_ => ?_)
            generalize w36.drew = w38 at HO_3 HO_5 BK119 HB hHeld ⊢
            refine pQ (i := 0) (N := some 64) #[yy,nn,nn,nn,nn,nn,nn,nn,nn,nn,nn,nn,nn,nn,nn,nn,nn] (any_of HT_.out (by kernel_rfl)) ?_
            refine pQ (i := 1) (N := some 65) #[yy,yy,nn,nn,nn,nn,nn,nn,nn,nn,nn,nn,nn,nn,nn,nn,nn] (any_of HT_.out (by kernel_rfl)) ?_
            refine pQ (i := 2) (N := some 66) #[yy,yy,yy,nn,nn,nn,nn,nn,nn,nn,nn,nn,nn,nn,nn,nn,nn] (any_of HT_.out (by kernel_rfl)) ?_
            refine pure_ (i := 3) (N := some 67) (v := undef) (a' := ?_) #[yy,yy,yy,yy,nn,nn,nn,nn,nn,nn,nn,nn,nn,nn,nn,nn,nn] rfl rfl (any_of HT_.out (by kernel_rfl)) (fun _ _ _ h => h) (Or.inr ⟨by rfl, rfl⟩) ?_ ?_
            rotate_left
            · simp only [Act.put, tA, tB, tC, i64_w, i32_w]
              rfl
            refine pure_ (i := 4) (N := some 68) (v := undef) (a' := ?_) #[yy,yy,yy,yy,yy,nn,nn,nn,nn,nn,nn,nn,nn,nn,nn,nn,nn] rfl rfl (any_of HT_.out (by kernel_rfl)) (fun _ _ _ h => h) (Or.inr ⟨by rfl, rfl⟩) ?_ ?_
            rotate_left
            · simp only [Act.put, tA, tB, tC, i64_w, i32_w]
              rfl
            refine pure_ (i := 5) (N := some 69) (v := undef) (a' := ?_) #[yy,yy,yy,yy,yy,yy,nn,nn,nn,nn,nn,nn,nn,nn,nn,nn,nn] rfl rfl (any_of HT_.out (by kernel_rfl)) (fun _ _ _ h => h) (Or.inr ⟨by rfl, rfl⟩) ?_ ?_
            rotate_left
            · simp only [Act.put, tA, tB, tC, i64_w, i32_w]
              rfl
            refine pure_ (i := 6) (N := some 70) (v := undef) (a' := ?_) #[yy,yy,yy,yy,yy,yy,yy,nn,nn,nn,nn,nn,nn,nn,nn,nn,nn] rfl rfl (any_of HT_.out (by kernel_rfl)) (fun _ _ _ h => h) (Or.inr ⟨by rfl, rfl⟩) ?_ ?_
            rotate_left
            · simp only [Act.put, tA, tB, tC, i64_w, i32_w]
              rfl
            refine pure_ (i := 7) (N := some 71) (v := undef) (a' := ?_) #[yy,yy,yy,yy,yy,yy,yy,yy,nn,nn,nn,nn,nn,nn,nn,nn,nn] rfl rfl (any_of HT_.out (by kernel_rfl)) (fun _ _ _ h => h) (Or.inr ⟨by rfl, rfl⟩) ?_ ?_
            rotate_left
            · simp only [Act.put, tA, tB, tC, i64_w, i32_w]
              rfl
            refine pure_ (i := 8) (N := some 72) (v := undef) (a' := ?_) #[yy,yy,yy,yy,yy,yy,yy,yy,yy,nn,nn,nn,nn,nn,nn,nn,nn] rfl rfl (any_of HT_.out (by kernel_rfl)) (fun _ _ _ h => h) (Or.inr ⟨by rfl, rfl⟩) ?_ ?_
            rotate_left
            · simp only [Act.put, tA, tB, tC, i64_w, i32_w]
              rfl
            refine pQ (i := 9) (N := some 73) #[yy,yy,yy,yy,yy,yy,yy,yy,yy,yy,nn,nn,nn,nn,nn,nn,nn] (any_of HT_.out (by kernel_rfl)) ?_
            refine pQ (i := 10) (N := some 74) #[yy,yy,yy,yy,yy,yy,yy,yy,yy,yy,yy,nn,nn,nn,nn,nn,nn] (any_of HT_.out (by kernel_rfl)) ?_
            refine pure_ (i := 11) (N := some 75) (v := undef) (a' := ?_) #[yy,yy,yy,yy,yy,yy,yy,yy,yy,yy,yy,yy,nn,nn,nn,nn,nn] rfl rfl (any_of HT_.out (by kernel_rfl)) (fun _ _ _ h => h) (Or.inr ⟨by rfl, rfl⟩) ?_ ?_
            rotate_left
            · simp only [Act.put, tA, tB, tC, i64_w, i32_w]
              rfl
            refine pure_ (i := 12) (N := some 76) (v := undef) (a' := ?_) #[yy,yy,yy,yy,yy,yy,yy,yy,yy,yy,yy,yy,yy,nn,nn,nn,nn] rfl rfl (any_of HT_.out (by kernel_rfl)) (fun _ _ _ h => h) (Or.inr ⟨by rfl, rfl⟩) ?_ ?_
            rotate_left
            · simp only [Act.put, tA, tB, tC, i64_w, i32_w]
              rfl
            refine pure_ (i := 13) (N := some 77) (v := undef) (a' := ?_) #[yy,yy,yy,yy,yy,yy,yy,yy,yy,yy,yy,yy,yy,yy,nn,nn,nn] rfl rfl (any_of HT_.out (by kernel_rfl)) (fun _ _ _ h => h) (Or.inr ⟨by rfl, rfl⟩) ?_ ?_
            rotate_left
            · simp only [Act.put, tA, tB, tC, i64_w, i32_w]
              rfl
            refine pure_ (i := 14) (N := some 78) (v := undef) (a' := ?_) #[yy,yy,yy,yy,yy,yy,yy,yy,yy,yy,yy,yy,yy,yy,yy,nn,nn] rfl rfl (any_of HT_.out (by kernel_rfl)) (fun _ _ _ h => h) (Or.inr ⟨by rfl, rfl⟩) ?_ ?_
            rotate_left
            · simp only [Act.put, tA, tB, tC, i64_w, i32_w]
              rfl
            refine pure_ (i := 15) (N := some 79) (v := undef) (a' := ?_) #[yy,yy,yy,yy,yy,yy,yy,yy,yy,yy,yy,yy,yy,yy,yy,yy,nn] rfl rfl (any_of HT_.out (by kernel_rfl)) (fun _ _ _ h => h) (Or.inr ⟨by rfl, rfl⟩) ?_ ?_
            rotate_left
            · simp only [Act.put, tA, tB, tC, i64_w, i32_w]
              rfl
            refine pQ (i := 16) (N := some 80) #[yy,yy,yy,yy,yy,yy,yy,yy,yy,yy,yy,yy,yy,yy,yy,yy,yy] (any_of HT_.out (by kernel_rfl)) ?_
            refine done_ (done_of HT_.out (by kernel_rfl)) ?_
            try go_wp2
            go_meet
            case rel => exact ⟨_, (true), (by first | rfl | (simp; done) | (simp [*]; done)), H', ⟨by have := HJ6.out; first | omega | exact Nat.le_refl _⟩, ⟨by (with_reducible repeat (first | apply Kd.R_alloc | apply Kd.R_drewN | apply Kd.R_drew)); exact HO_3.out⟩, ⟨by (with_reducible repeat (first | apply Kd.R_alloc | apply Kd.R_drewN | apply Kd.R_drew)); exact HO_5.out⟩, ⟨by (with_reducible repeat (first | apply bkD | apply bkd | apply bkA)); exact BK119.out⟩, ⟨bq HB⟩⟩
          rw [if_neg c37] at H
          have c37b0 : decide (t132 < 0) = false := decide_eq_false c37
          clear c37
          (first | rw [c37b0] | (simp only [i64_w, i32_w]; rw [c37b0]) | skip)
          by_cases c39 : 0 ≤ t132
          · rw [if_pos c39] at H
            have c39b0 : decide (0 ≤ t132) = true := decide_eq_true c39
            clear c39
            by_cases c40 : t132 < (t120.length : Int)
            · rw [if_pos c40] at H
              have c40b0 : decide (t132 < (t120.length : Int)) = true := decide_eq_true c40
              clear c40
              by_cases c41 : (!(((rd_T30 t120 t132).f0) == t105) || (!(((rd_T30 t120 t132).f1) == t106) || (!(((rd_T30 t120 t132).f2) == t107) || (!(((rd_T30 t120 t132).f3) == t108) || (!(((rd_T30 t120 t132).f4) == t109) || (!(((rd_T30 t120 t132).f5) == t110) || (!(((rd_T30 t120 t132).f6) == t111) || (!(((rd_T30 t120 t132).f7) == t112) || (!(((rd_T30 t120 t132).f8) == t113) || (!(((rd_T30 t120 t132).f9) == t114) || (!(((rd_T30 t120 t132).f10) == t115) || (!(((rd_T30 t120 t132).f11) == t116) || (!(((rd_T30 t120 t132).f12) == t117) || (!(((rd_T30 t120 t132).f13) == t118))))))))))))))) = true
              · rw [if_pos c41] at H
                have c41b0 : (!(((rd_T30 t120 t132).f0) == t105) || (!(((rd_T30 t120 t132).f1) == t106) || (!(((rd_T30 t120 t132).f2) == t107) || (!(((rd_T30 t120 t132).f3) == t108) || (!(((rd_T30 t120 t132).f4) == t109) || (!(((rd_T30 t120 t132).f5) == t110) || (!(((rd_T30 t120 t132).f6) == t111) || (!(((rd_T30 t120 t132).f7) == t112) || (!(((rd_T30 t120 t132).f8) == t113) || (!(((rd_T30 t120 t132).f9) == t114) || (!(((rd_T30 t120 t132).f10) == t115) || (!(((rd_T30 t120 t132).f11) == t116) || (!(((rd_T30 t120 t132).f12) == t117) || (!(((rd_T30 t120 t132).f13) == t118))))))))))))))) = true := c41
                clear c41
                have H' := Aside0.mk H
                clear H
                try go_wp2
                have n0_ := aM (Kd.R_drew HO_3.out)
                have n1_ := aM (Kd.R_drew HO_5.out)
                have n2_ := aM (blk_drew BK119.out)
                have n3_ := aM (below_drew1 HB.out)
                clear HO_3 HO_5 BK119 HB
                have HO_3 := n0_
                have HO_5 := n1_
                have BK119 := n2_
                have HB := n3_
                clear n0_ n1_ n2_ n3_
                have p133 : 0 ≤ (t132 : Int) := of_decide_eq_true (by first | (with_reducible assumption) | assumption)
                have q133 : t132 < (t120.length : Int) := of_decide_eq_true (by first | (with_reducible assumption) | assumption)
                obtain ⟨ad133, e133, hx133_0, hx133_1, hx133_2, hx133_3, hx133_4, hx133_5, hx133_6, hx133_7, hx133_8, hx133_9, hx133_10, hx133_11, hx133_12, hx133_13⟩ := at_T30 (Kd.R_reads' HO_5.out).2.2 t132 p133 q133
                cases e133
                replace p133 := eq_true p133
                replace q133 := eq_true q133
                refine start_ (n := 17) (S := fun w' => cb14t w' gb119 (.int .i64 t105) (.int .i64 t106) (.int .i64 t107) (.int .i64 t108) (.bool t109) (.int .i64 t110) (.int .i64 t111) (.int .i64 t112) (.int .i64 t113) (.int .i64 t114) (.int .i64 t115) (.int .i64 t116) (.int .i64 t117) (.int .i64 t118) (ca14 w' (ad133.add ((t132).toNat * 14)) (.int .i64 ((rd_T30 t120 t132).f0)) (.int .i64 ((rd_T30 t120 t132).f1)) (.int .i64 ((rd_T30 t120 t132).f2)) (.int .i64 ((rd_T30 t120 t132).f3)) (.bool ((rd_T30 t120 t132).f4)) (.int .i64 ((rd_T30 t120 t132).f5)) (.int .i64 ((rd_T30 t120 t132).f6)) (.int .i64 ((rd_T30 t120 t132).f7)) (.int .i64 ((rd_T30 t120 t132).f8)) (.int .i64 ((rd_T30 t120 t132).f9)) (.int .i64 ((rd_T30 t120 t132).f10)) (.int .i64 ((rd_T30 t120 t132).f11)) (.int .i64 ((rd_T30 t120 t132).f12)) (.int .i64 ((rd_T30 t120 t132).f13)))) (ds := []) #[nn,nn,nn,nn,nn,nn,nn,nn,nn,nn,nn,nn,nn,nn,nn,nn,nn] (by kernel_rfl) rfl rfl ⟨(blk_cell BK119.out 0).trans rfl, (blk_cell BK119.out 1).trans rfl, (blk_cell BK119.out 2).trans rfl, (blk_cell BK119.out 3).trans rfl, (blk_cell BK119.out 4).trans rfl, (blk_cell BK119.out 5).trans rfl, (blk_cell BK119.out 6).trans rfl, (blk_cell BK119.out 7).trans rfl, (blk_cell BK119.out 8).trans rfl, (blk_cell BK119.out 9).trans rfl, (blk_cell BK119.out 10).trans rfl, (blk_cell BK119.out 11).trans rfl, (blk_cell BK119.out 12).trans rfl, (blk_cell BK119.out 13).trans rfl, hx133_0, hx133_1, hx133_2, hx133_3, hx133_4, hx133_5, hx133_6, hx133_7, hx133_8, hx133_9, hx133_10, hx133_11, hx133_12, hx133_13⟩ (fun hHeld => ?_); refine with_tabW laws_FnTasks.tab11 laws_FnTasks.bits11 (fun HT_ HW_ => ?_)
                generalize w36.drew = w42 at HO_3 HO_5 BK119 HB hx133_0 hx133_1 hx133_10 hx133_11 hx133_12 hx133_13 hx133_2 hx133_3 hx133_4 hx133_5 hx133_6 hx133_7 hx133_8 hx133_9 hHeld ⊢
                refine pQ (i := 0) (N := some 64) #[yy,nn,nn,nn,nn,nn,nn,nn,nn,nn,nn,nn,nn,nn,nn,nn,nn] (any_of HT_.out (by kernel_rfl)) ?_
                refine pQ (i := 1) (N := some 65) #[yy,yy,nn,nn,nn,nn,nn,nn,nn,nn,nn,nn,nn,nn,nn,nn,nn] (any_of HT_.out (by kernel_rfl)) ?_
                refine pQ (i := 2) (N := some 66) #[yy,yy,yy,nn,nn,nn,nn,nn,nn,nn,nn,nn,nn,nn,nn,nn,nn] (any_of HT_.out (by kernel_rfl)) ?_
                refine pQ (i := 3) (N := some 67) #[yy,yy,yy,yy,nn,nn,nn,nn,nn,nn,nn,nn,nn,nn,nn,nn,nn] (any_of HT_.out (by kernel_rfl)) ?_
                refine pQ (i := 4) (N := some 68) #[yy,yy,yy,yy,yy,nn,nn,nn,nn,nn,nn,nn,nn,nn,nn,nn,nn] (any_of HT_.out (by kernel_rfl)) ?_
                refine pQ (i := 5) (N := some 69) #[yy,yy,yy,yy,yy,yy,nn,nn,nn,nn,nn,nn,nn,nn,nn,nn,nn] (any_of HT_.out (by kernel_rfl)) ?_
                refine tQ (i := 6) (N := some 70) #[yy,yy,yy,yy,yy,yy,yy,nn,nn,nn,nn,nn,nn,nn,nn,nn,nn] (take_ofW HT_.out HW_.out (by kernel_rfl)) hHeld ?_
                refine tQ (i := 7) (N := some 71) #[yy,yy,yy,yy,yy,yy,yy,yy,nn,nn,nn,nn,nn,nn,nn,nn,nn] (take_ofW HT_.out HW_.out (by kernel_rfl)) hHeld ?_
                refine pQ (i := 8) (N := some 72) #[yy,yy,yy,yy,yy,yy,yy,yy,yy,nn,nn,nn,nn,nn,nn,nn,nn] (any_of HT_.out (by kernel_rfl)) ?_
                refine pQ (i := 9) (N := some 73) #[yy,yy,yy,yy,yy,yy,yy,yy,yy,yy,nn,nn,nn,nn,nn,nn,nn] (any_of HT_.out (by kernel_rfl)) ?_
                refine pQ (i := 10) (N := some 74) #[yy,yy,yy,yy,yy,yy,yy,yy,yy,yy,yy,nn,nn,nn,nn,nn,nn] (any_of HT_.out (by kernel_rfl)) ?_
                refine pure_ (i := 11) (N := some 75) (v := undef) (a' := ?_) #[yy,yy,yy,yy,yy,yy,yy,yy,yy,yy,yy,yy,nn,nn,nn,nn,nn] rfl rfl (any_of HT_.out (by kernel_rfl)) (fun _ _ _ h => h) (Or.inr ⟨by rfl, rfl⟩) ?_ ?_
                rotate_left
                · simp only [Act.put, tA, tB, tC, i64_w, i32_w]
                  rfl
                refine pure_ (i := 12) (N := some 76) (v := undef) (a' := ?_) #[yy,yy,yy,yy,yy,yy,yy,yy,yy,yy,yy,yy,yy,nn,nn,nn,nn] rfl rfl (any_of HT_.out (by kernel_rfl)) (fun _ _ _ h => h) (Or.inr ⟨by rfl, rfl⟩) ?_ ?_
                rotate_left
                · simp only [Act.put, tA, tB, tC, i64_w, i32_w]
                  rfl
                refine pure_ (i := 13) (N := some 77) (v := undef) (a' := ?_) #[yy,yy,yy,yy,yy,yy,yy,yy,yy,yy,yy,yy,yy,yy,nn,nn,nn] rfl rfl (any_of HT_.out (by kernel_rfl)) (fun _ _ _ h => h) (Or.inr ⟨by rfl, rfl⟩) ?_ ?_
                rotate_left
                · simp only [Act.put, tA, tB, tC, i64_w, i32_w]
                  rfl
                refine pure_ (i := 14) (N := some 78) (v := undef) (a' := ?_) #[yy,yy,yy,yy,yy,yy,yy,yy,yy,yy,yy,yy,yy,yy,yy,nn,nn] rfl rfl (any_of HT_.out (by kernel_rfl)) (fun _ _ _ h => h) (Or.inr ⟨by rfl, rfl⟩) ?_ ?_
                rotate_left
                · simp only [Act.put, tA, tB, tC, i64_w, i32_w]
                  rfl
                refine pure_ (i := 15) (N := some 79) (v := undef) (a' := ?_) #[yy,yy,yy,yy,yy,yy,yy,yy,yy,yy,yy,yy,yy,yy,yy,yy,nn] rfl rfl (any_of HT_.out (by kernel_rfl)) (fun _ _ _ h => h) (Or.inr ⟨by rfl, rfl⟩) ?_ ?_
                rotate_left
                · simp only [Act.put, tA, tB, tC, i64_w, i32_w]
                  rfl
                refine pQ (i := 16) (N := some 80) #[yy,yy,yy,yy,yy,yy,yy,yy,yy,yy,yy,yy,yy,yy,yy,yy,yy] (any_of HT_.out (by kernel_rfl)) ?_
                refine done_ (done_of HT_.out (by kernel_rfl)) ?_
                try go_wp2
                go_meet
                case rel => exact ⟨_, (true), (by first | rfl | (simp; done) | (simp [*]; done)), H', ⟨by have := HJ6.out; first | omega | exact Nat.le_refl _⟩, ⟨by (with_reducible repeat (first | apply Kd.R_alloc | apply Kd.R_drewN | apply Kd.R_drew)); exact HO_3.out⟩, ⟨by (with_reducible repeat (first | apply Kd.R_alloc | apply Kd.R_drewN | apply Kd.R_drew)); exact HO_5.out⟩, ⟨by (with_reducible repeat (first | apply bkD | apply bkd | apply bkA)); exact BK119.out⟩, ⟨bq HB⟩⟩
              rw [if_neg c41] at H
              have c41b0 : (!(((rd_T30 t120 t132).f0) == t105) || (!(((rd_T30 t120 t132).f1) == t106) || (!(((rd_T30 t120 t132).f2) == t107) || (!(((rd_T30 t120 t132).f3) == t108) || (!(((rd_T30 t120 t132).f4) == t109) || (!(((rd_T30 t120 t132).f5) == t110) || (!(((rd_T30 t120 t132).f6) == t111) || (!(((rd_T30 t120 t132).f7) == t112) || (!(((rd_T30 t120 t132).f8) == t113) || (!(((rd_T30 t120 t132).f9) == t114) || (!(((rd_T30 t120 t132).f10) == t115) || (!(((rd_T30 t120 t132).f11) == t116) || (!(((rd_T30 t120 t132).f12) == t117) || (!(((rd_T30 t120 t132).f13) == t118))))))))))))))) = false := by simpa using c41
              clear c41
              replace H := Option.bind_eq_some_iff.mp H
              obtain ⟨t134, A430, H⟩ := H
              replace H : (laws_FnTasks.j1 kj6 t102 t120 (decide (t134 ≥ 0))) = some r := H
              have A43 := Aside0.mk A430
              clear A430
              have H' := Aside0.mk H
              clear H
              try go_wp2
              have n0_ := aM (Kd.R_drew HO_3.out)
              have n1_ := aM (Kd.R_drew HO_5.out)
              have n2_ := aM (blk_drew BK119.out)
              have n3_ := aM (below_drew1 HB.out)
              clear HO_3 HO_5 BK119 HB
              have HO_3 := n0_
              have HO_5 := n1_
              have BK119 := n2_
              have HB := n3_
              clear n0_ n1_ n2_ n3_
              have p133 : 0 ≤ (t132 : Int) := of_decide_eq_true (by first | (with_reducible assumption) | assumption)
              have q133 : t132 < (t120.length : Int) := of_decide_eq_true (by first | (with_reducible assumption) | assumption)
              obtain ⟨ad133, e133, hx133_0, hx133_1, hx133_2, hx133_3, hx133_4, hx133_5, hx133_6, hx133_7, hx133_8, hx133_9, hx133_10, hx133_11, hx133_12, hx133_13⟩ := at_T30 (Kd.R_reads' HO_5.out).2.2 t132 p133 q133
              cases e133
              replace p133 := eq_true p133
              replace q133 := eq_true q133
              refine start_ (n := 17) (S := fun w' => cb14t w' gb119 (.int .i64 t105) (.int .i64 t106) (.int .i64 t107) (.int .i64 t108) (.bool t109) (.int .i64 t110) (.int .i64 t111) (.int .i64 t112) (.int .i64 t113) (.int .i64 t114) (.int .i64 t115) (.int .i64 t116) (.int .i64 t117) (.int .i64 t118) (ca14 w' (ad133.add ((t132).toNat * 14)) (.int .i64 ((rd_T30 t120 t132).f0)) (.int .i64 ((rd_T30 t120 t132).f1)) (.int .i64 ((rd_T30 t120 t132).f2)) (.int .i64 ((rd_T30 t120 t132).f3)) (.bool ((rd_T30 t120 t132).f4)) (.int .i64 ((rd_T30 t120 t132).f5)) (.int .i64 ((rd_T30 t120 t132).f6)) (.int .i64 ((rd_T30 t120 t132).f7)) (.int .i64 ((rd_T30 t120 t132).f8)) (.int .i64 ((rd_T30 t120 t132).f9)) (.int .i64 ((rd_T30 t120 t132).f10)) (.int .i64 ((rd_T30 t120 t132).f11)) (.int .i64 ((rd_T30 t120 t132).f12)) (.int .i64 ((rd_T30 t120 t132).f13)))) (ds := []) #[nn,nn,nn,nn,nn,nn,nn,nn,nn,nn,nn,nn,nn,nn,nn,nn,nn] (by kernel_rfl) rfl rfl ⟨(blk_cell BK119.out 0).trans rfl, (blk_cell BK119.out 1).trans rfl, (blk_cell BK119.out 2).trans rfl, (blk_cell BK119.out 3).trans rfl, (blk_cell BK119.out 4).trans rfl, (blk_cell BK119.out 5).trans rfl, (blk_cell BK119.out 6).trans rfl, (blk_cell BK119.out 7).trans rfl, (blk_cell BK119.out 8).trans rfl, (blk_cell BK119.out 9).trans rfl, (blk_cell BK119.out 10).trans rfl, (blk_cell BK119.out 11).trans rfl, (blk_cell BK119.out 12).trans rfl, (blk_cell BK119.out 13).trans rfl, hx133_0, hx133_1, hx133_2, hx133_3, hx133_4, hx133_5, hx133_6, hx133_7, hx133_8, hx133_9, hx133_10, hx133_11, hx133_12, hx133_13⟩ (fun hHeld => ?_); refine with_tabW laws_FnTasks.tab11 laws_FnTasks.bits11 (fun HT_ HW_ => ?_)
              generalize w36.drew = w44 at HO_3 HO_5 BK119 HB hx133_0 hx133_1 hx133_10 hx133_11 hx133_12 hx133_13 hx133_2 hx133_3 hx133_4 hx133_5 hx133_6 hx133_7 hx133_8 hx133_9 hHeld ⊢
              refine pQ (i := 0) (N := some 64) #[yy,nn,nn,nn,nn,nn,nn,nn,nn,nn,nn,nn,nn,nn,nn,nn,nn] (any_of HT_.out (by kernel_rfl)) ?_
              refine pQ (i := 1) (N := some 65) #[yy,yy,nn,nn,nn,nn,nn,nn,nn,nn,nn,nn,nn,nn,nn,nn,nn] (any_of HT_.out (by kernel_rfl)) ?_
              refine pQ (i := 2) (N := some 66) #[yy,yy,yy,nn,nn,nn,nn,nn,nn,nn,nn,nn,nn,nn,nn,nn,nn] (any_of HT_.out (by kernel_rfl)) ?_
              refine pQ (i := 3) (N := some 67) #[yy,yy,yy,yy,nn,nn,nn,nn,nn,nn,nn,nn,nn,nn,nn,nn,nn] (any_of HT_.out (by kernel_rfl)) ?_
              refine pQ (i := 4) (N := some 68) #[yy,yy,yy,yy,yy,nn,nn,nn,nn,nn,nn,nn,nn,nn,nn,nn,nn] (any_of HT_.out (by kernel_rfl)) ?_
              refine pQ (i := 5) (N := some 69) #[yy,yy,yy,yy,yy,yy,nn,nn,nn,nn,nn,nn,nn,nn,nn,nn,nn] (any_of HT_.out (by kernel_rfl)) ?_
              refine tQ (i := 6) (N := some 70) #[yy,yy,yy,yy,yy,yy,yy,nn,nn,nn,nn,nn,nn,nn,nn,nn,nn] (take_ofW HT_.out HW_.out (by kernel_rfl)) hHeld ?_
              refine tQ (i := 7) (N := some 71) #[yy,yy,yy,yy,yy,yy,yy,yy,nn,nn,nn,nn,nn,nn,nn,nn,nn] (take_ofW HT_.out HW_.out (by kernel_rfl)) hHeld ?_
              refine pQ (i := 8) (N := some 72) #[yy,yy,yy,yy,yy,yy,yy,yy,yy,nn,nn,nn,nn,nn,nn,nn,nn] (any_of HT_.out (by kernel_rfl)) ?_
              refine pQ (i := 9) (N := some 73) #[yy,yy,yy,yy,yy,yy,yy,yy,yy,yy,nn,nn,nn,nn,nn,nn,nn] (any_of HT_.out (by kernel_rfl)) ?_
              refine pQ (i := 10) (N := some 74) #[yy,yy,yy,yy,yy,yy,yy,yy,yy,yy,yy,nn,nn,nn,nn,nn,nn] (any_of HT_.out (by kernel_rfl)) ?_
              refine pQ (i := 11) (N := some 75) #[yy,yy,yy,yy,yy,yy,yy,yy,yy,yy,yy,yy,nn,nn,nn,nn,nn] (any_of HT_.out (by kernel_rfl)) ?_
              refine pQ (i := 12) (N := some 76) #[yy,yy,yy,yy,yy,yy,yy,yy,yy,yy,yy,yy,yy,nn,nn,nn,nn] (any_of HT_.out (by kernel_rfl)) ?_
              refine tQ (i := 13) (N := some 77) #[yy,yy,yy,yy,yy,yy,yy,yy,yy,yy,yy,yy,yy,yy,nn,nn,nn] (take_ofW HT_.out HW_.out (by kernel_rfl)) hHeld ?_
              refine one_ (i := 14) (N := some 78) #[yy,yy,yy,yy,yy,yy,yy,yy,yy,yy,yy,yy,yy,yy,yy,nn,nn] rfl rfl (one_of HT_.out (by kernel_rfl)) (by decide) (fun K hK => ?_)
              refine goes_ Try.func19 (by kernel_rfl) rfl #[.slice Ao11 t102.length co11, .int .i64 t105] (by rfl) rfl rfl (by (try simp only [List.map_toArray, List.map_cons, List.map_nil]); first | done | rfl | (simp only [List.length_drop, List.length_take]; rfl)) ?_
              with_reducible refine (impl_TaskAt.calls _ _ t102 t105 t134 _ ?side1 ?side2 A43.out).mono ?_
              (case side1 => repeat (first | exact (Kd.R_reads' HO_3.out).2.2 | (with_reducible refine Kd.C_alloc ?_ _) | (with_reducible refine Kd.C_drewN ?_ _) | (with_reducible refine Kd.C_drew ?_)))
              (case side2 => exact (Kd.R_reads' HO_3.out).2.1)
              rintro e w45 ⟨rfl, hb⟩
              have HS14_ := (hb.cell (World.block_lt_of_cell? _ _ (hHeld.2.2.2.2.2.2.2.2.2.2.2.2.2.2.1))).trans (hHeld.2.2.2.2.2.2.2.2.2.2.2.2.2.2.1)
              have HS15_ := (hb.cell (World.block_lt_of_cell? _ _ (hHeld.2.2.2.2.2.2.2.2.2.2.2.2.2.2.2.1))).trans (hHeld.2.2.2.2.2.2.2.2.2.2.2.2.2.2.2.1)
              have HS16_ := (hb.cell (World.block_lt_of_cell? _ _ (hHeld.2.2.2.2.2.2.2.2.2.2.2.2.2.2.2.2.1))).trans (hHeld.2.2.2.2.2.2.2.2.2.2.2.2.2.2.2.2.1)
              have HS17_ := (hb.cell (World.block_lt_of_cell? _ _ (hHeld.2.2.2.2.2.2.2.2.2.2.2.2.2.2.2.2.2.1))).trans (hHeld.2.2.2.2.2.2.2.2.2.2.2.2.2.2.2.2.2.1)
              have HS18_ := (hb.cell (World.block_lt_of_cell? _ _ (hHeld.2.2.2.2.2.2.2.2.2.2.2.2.2.2.2.2.2.2.1))).trans (hHeld.2.2.2.2.2.2.2.2.2.2.2.2.2.2.2.2.2.2.1)
              have HS19_ := (hb.cell (World.block_lt_of_cell? _ _ (hHeld.2.2.2.2.2.2.2.2.2.2.2.2.2.2.2.2.2.2.2.1))).trans (hHeld.2.2.2.2.2.2.2.2.2.2.2.2.2.2.2.2.2.2.2.1)
              have HS20_ := (hb.cell (World.block_lt_of_cell? _ _ (hHeld.2.2.2.2.2.2.2.2.2.2.2.2.2.2.2.2.2.2.2.2.1))).trans (hHeld.2.2.2.2.2.2.2.2.2.2.2.2.2.2.2.2.2.2.2.2.1)
              have HS21_ := (hb.cell (World.block_lt_of_cell? _ _ (hHeld.2.2.2.2.2.2.2.2.2.2.2.2.2.2.2.2.2.2.2.2.2.1))).trans (hHeld.2.2.2.2.2.2.2.2.2.2.2.2.2.2.2.2.2.2.2.2.2.1)
              have HS22_ := (hb.cell (World.block_lt_of_cell? _ _ (hHeld.2.2.2.2.2.2.2.2.2.2.2.2.2.2.2.2.2.2.2.2.2.2.1))).trans (hHeld.2.2.2.2.2.2.2.2.2.2.2.2.2.2.2.2.2.2.2.2.2.2.1)
              have HS23_ := (hb.cell (World.block_lt_of_cell? _ _ (hHeld.2.2.2.2.2.2.2.2.2.2.2.2.2.2.2.2.2.2.2.2.2.2.2.1))).trans (hHeld.2.2.2.2.2.2.2.2.2.2.2.2.2.2.2.2.2.2.2.2.2.2.2.1)
              have HS24_ := (hb.cell (World.block_lt_of_cell? _ _ (hHeld.2.2.2.2.2.2.2.2.2.2.2.2.2.2.2.2.2.2.2.2.2.2.2.2.1))).trans (hHeld.2.2.2.2.2.2.2.2.2.2.2.2.2.2.2.2.2.2.2.2.2.2.2.2.1)
              have HS25_ := (hb.cell (World.block_lt_of_cell? _ _ (hHeld.2.2.2.2.2.2.2.2.2.2.2.2.2.2.2.2.2.2.2.2.2.2.2.2.2.1))).trans (hHeld.2.2.2.2.2.2.2.2.2.2.2.2.2.2.2.2.2.2.2.2.2.2.2.2.2.1)
              have HS26_ := (hb.cell (World.block_lt_of_cell? _ _ (hHeld.2.2.2.2.2.2.2.2.2.2.2.2.2.2.2.2.2.2.2.2.2.2.2.2.2.2.1))).trans (hHeld.2.2.2.2.2.2.2.2.2.2.2.2.2.2.2.2.2.2.2.2.2.2.2.2.2.2.1)
              have HS27_ := (hb.cell (World.block_lt_of_cell? _ _ (hHeld.2.2.2.2.2.2.2.2.2.2.2.2.2.2.2.2.2.2.2.2.2.2.2.2.2.2.2))).trans (hHeld.2.2.2.2.2.2.2.2.2.2.2.2.2.2.2.2.2.2.2.2.2.2.2.2.2.2.2)
              refine ⟨_, rfl, ?_⟩
              have n0_ := aM (Kd.R_below (rq HO_3) hb)
              have n1_ := aM (Kd.R_below (rq HO_5) hb)
              have n2_ := aM (blk_below (kq BK119) hb)
              have n3_ := aM (below_step (bq HB) hb)
              clear HO_3 HO_5 BK119 HB
              have HO_3 := n0_
              have HO_5 := n1_
              have BK119 := n2_
              have HB := n3_
              clear n0_ n1_ n2_ n3_
              (try clear hb)
              (try clear hb2)
              (try clear hk)
              (try clear hi)
              refine hK.out _ _ ⟨(blk_cell BK119.out 0).trans rfl, (blk_cell BK119.out 1).trans rfl, (blk_cell BK119.out 2).trans rfl, (blk_cell BK119.out 3).trans rfl, (blk_cell BK119.out 4).trans rfl, (blk_cell BK119.out 5).trans rfl, (blk_cell BK119.out 6).trans rfl, (blk_cell BK119.out 7).trans rfl, (blk_cell BK119.out 8).trans rfl, (blk_cell BK119.out 9).trans rfl, (blk_cell BK119.out 10).trans rfl, (blk_cell BK119.out 11).trans rfl, (blk_cell BK119.out 12).trans rfl, (blk_cell BK119.out 13).trans rfl, HS14_, HS15_, HS16_, HS17_, HS18_, HS19_, HS20_, HS21_, HS22_, HS23_, HS24_, HS25_, HS26_, HS27_⟩ (fun hHeld => ?_)
              clear hK K
              refine nQ (N := some 78) ?_
              refine pQ (i := 15) (N := some 79) #[yy,yy,yy,yy,yy,yy,yy,yy,yy,yy,yy,yy,yy,yy,yy,yy,nn] (any_of HT_.out (by kernel_rfl)) ?_
              refine pQ (i := 16) (N := some 80) #[yy,yy,yy,yy,yy,yy,yy,yy,yy,yy,yy,yy,yy,yy,yy,yy,yy] (any_of HT_.out (by kernel_rfl)) ?_
              refine done_ (done_of HT_.out (by kernel_rfl)) ?_
              try go_wp2
              go_meet
              case rel => exact ⟨_, (decide (t134 ≥ 0)), (by first | rfl | (simp; done) | (simp [*]; done)), H', ⟨by have := HJ6.out; first | omega | exact Nat.le_refl _⟩, ⟨by (with_reducible repeat (first | apply Kd.R_alloc | apply Kd.R_drewN | apply Kd.R_drew)); exact HO_3.out⟩, ⟨by (with_reducible repeat (first | apply Kd.R_alloc | apply Kd.R_drewN | apply Kd.R_drew)); exact HO_5.out⟩, ⟨by (with_reducible repeat (first | apply bkD | apply bkd | apply bkA)); exact BK119.out⟩, ⟨bq HB⟩⟩
            rw [if_neg c40] at H
            exact absurd H (by simp)
          rw [if_neg c39] at H
          exact absurd H (by simp)
        case rest =>
          clear HC33
          try clear c1
          try clear p1
          try clear q1
          try clear hx1
          try clear p2
          try clear c3
          try clear c4
          try clear p13
          try clear q13
          try clear hx13
          try clear c15
          try clear c15b0
          try clear c15b1
          try clear c15b2
          try clear c16
          try clear c17
          try clear c18
          try clear c19
          try clear c19b0
          try clear c19b1
          try clear c19b2
          try clear c30
          try clear c31
          try clear c37
          try clear c37b0
          try clear c39
          try clear c39b0
          try clear c40
          try clear c40b0
          try clear c41
          try clear c41b0
          try clear hfz34_0
          try clear hx133_0
          try clear hx133_1
          try clear hx133_10
          try clear hx133_11
          try clear hx133_12
          try clear hx133_13
          try clear hx133_2
          try clear hx133_3
          try clear hx133_4
          try clear hx133_5
          try clear hx133_6
          try clear hx133_7
          try clear hx133_8
          try clear hx133_9
          try clear p133
          try clear p2
          try clear q133
          obtain ⟨kq, x80_32, rfl, HA, HJ32, HO_3, HO_5, BK119, HB⟩ := hcut
          cases kq with
          | zero => exact absurd HA.out (by simp [laws_FnTasks.j1])
          | succ kj32 =>
            have H := HA.out
            clear HA
            simp only [laws_FnTasks.j1] at H
            by_cases c46 : x80_32 = true
            · subst c46
              have H1 : (some false) = some r := by rw [if_pos rfl] at H; exact H
              clear H
              have H := H1
              clear H1
              exact absurd ((Option.some.inj H).trans HRT.out) Bool.false_ne_true
            replace c46 := Bool.eq_false_iff.mpr c46
            subst c46
            have H1 : (laws_FnTasks.l0 kj32 t102 t120 0) = some r := by rw [if_neg (show ¬ (false = true) by decide)] at H; exact H
            clear H
            have H := H1
            clear H1
            have H' := Aside0.mk H
            clear H
            go_wp2
            go_loopg [10] kj32 (fun kq v10 w' => ∃ (x10_3 : Int), v10 = .int .i64 x10_3 ∧ Aside0 (laws_FnTasks.l0 kq t102 t120 x10_3 = some r) ∧ Aside0 (kq ≤ kj32) ∧ Aside0 (Kd.R k30 30 w' w.heap.size (fun k_ => some k_ ≠ ((.slice Ao35 t120.length co35) : Value).ownBlock ∧ k_ ≠ gb119) (.slice Ao11 t102.length co11) t102) ∧ Aside0 (Kd.R k30 30 w' w.heap.size (fun k_ => some k_ ≠ ((.slice Ao11 t102.length co11) : Value).ownBlock ∧ k_ ≠ gb119) (.slice Ao35 t120.length co35) t120) ∧ Aside0 (w'.heap[gb119]? = some (.cells #[.int .i64 t105, .int .i64 t106, .int .i64 t107, .int .i64 t108, .bool t109, .int .i64 t110, .int .i64 t111, .int .i64 t112, .int .i64 t113, .int .i64 t114, .int .i64 t115, .int .i64 t116, .int .i64 t117, .int .i64 t118] 30 (0, 0))) ∧ Aside0 (Below w.heap.size w w'))
            case atStart => exact ⟨(0), (by first | rfl | (simp; done) | (simp [*]; done)), H', ⟨Nat.le_refl _⟩, ⟨by (with_reducible repeat (first | apply Kd.R_alloc | apply Kd.R_drewN | apply Kd.R_drew)); exact HO_3.out⟩, ⟨by (with_reducible repeat (first | apply Kd.R_alloc | apply Kd.R_drewN | apply Kd.R_drew)); exact HO_5.out⟩, ⟨by (with_reducible repeat (first | apply bkD | apply bkd | apply bkA)); exact BK119.out⟩, ⟨bq HB⟩⟩
            case round =>
              clear H'
              try clear c1
              try clear p1
              try clear q1
              try clear hx1
              try clear p2
              try clear c3
              try clear c4
              try clear p13
              try clear q13
              try clear hx13
              try clear c15
              try clear c15b0
              try clear c15b1
              try clear c15b2
              try clear c16
              try clear c17
              try clear c18
              try clear c19
              try clear c19b0
              try clear c19b1
              try clear c19b2
              try clear c30
              try clear c31
              try clear c37
              try clear c37b0
              try clear c39
              try clear c39b0
              try clear c40
              try clear c40b0
              try clear c41
              try clear c41b0
              try clear c46
              try clear hfz34_0
              try clear hx133_0
              try clear hx133_1
              try clear hx133_10
              try clear hx133_11
              try clear hx133_12
              try clear hx133_13
              try clear hx133_2
              try clear hx133_3
              try clear hx133_4
              try clear hx133_5
              try clear hx133_6
              try clear hx133_7
              try clear hx133_8
              try clear hx133_9
              try clear p1
              try clear p13
              try clear p133
              try clear p2
              try clear q1
              try clear q13
              try clear q133
              obtain ⟨x10_3, rfl, HA, HK3, HO_3, HO_5, BK119, HB⟩ := hrel
              cases gk with
              | zero => exact absurd HA.out (by simp [laws_FnTasks.l0])
              | succ k3 =>
                have H := HA.out
                clear HA
                simp only [laws_FnTasks.l0] at H
                by_cases c47 : x10_3 < (t102.length : Int)
                · rw [if_pos c47] at H
                  have c47b0 : decide (x10_3 < (t102.length : Int)) = true := decide_eq_true c47
                  clear c47
                  by_cases c48 : 0 ≤ x10_3
                  · rw [if_pos c48] at H
                    have c48b0 : decide (0 ≤ x10_3) = true := decide_eq_true c48
                    clear c48
                    replace H := Option.bind_eq_some_iff.mp H
                    obtain ⟨t136, A490, H⟩ := H
                    replace H : (if t136 < 0 then (laws_FnTasks.j3 k3 t102 t120 x10_3 true) else (if 0 ≤ t136 then (if t136 < (t120.length : Int) then (laws_FnTasks.j3 k3 t102 t120 x10_3 (!(((rd_T30 t120 t136).f0) == ((rd_T30 t102 x10_3).f0)) || (!(((rd_T30 t120 t136).f1) == ((rd_T30 t102 x10_3).f1)) || (!(((rd_T30 t120 t136).f2) == ((rd_T30 t102 x10_3).f2)) || (!(((rd_T30 t120 t136).f3) == ((rd_T30 t102 x10_3).f3)) || (!(((rd_T30 t120 t136).f4) == ((rd_T30 t102 x10_3).f4)) || (!(((rd_T30 t120 t136).f5) == ((rd_T30 t102 x10_3).f5)) || (!(((rd_T30 t120 t136).f6) == ((rd_T30 t102 x10_3).f6)) || (!(((rd_T30 t120 t136).f7) == ((rd_T30 t102 x10_3).f7)) || (!(((rd_T30 t120 t136).f8) == ((rd_T30 t102 x10_3).f8)) || (!(((rd_T30 t120 t136).f9) == ((rd_T30 t102 x10_3).f9)) || (!(((rd_T30 t120 t136).f10) == ((rd_T30 t102 x10_3).f10)) || (!(((rd_T30 t120 t136).f11) == ((rd_T30 t102 x10_3).f11)) || (!(((rd_T30 t120 t136).f12) == ((rd_T30 t102 x10_3).f12)) || (!(((rd_T30 t120 t136).f13) == ((rd_T30 t102 x10_3).f13))))))))))))))))) else (none)) else (none))) = some r := H
                    have A49 := Aside0.mk A490
                    clear A490
                    have HC50 := Aside0.mk H
                    clear H
                    have p135 : 0 ≤ (x10_3 : Int) := of_decide_eq_true (by first | (with_reducible assumption) | assumption)
                    have q135 : x10_3 < (t102.length : Int) := of_decide_eq_true (by first | (with_reducible assumption) | assumption)
                    obtain ⟨ad135, e135, hx135_0, hx135_1, hx135_2, hx135_3, hx135_4, hx135_5, hx135_6, hx135_7, hx135_8, hx135_9, hx135_10, hx135_11, hx135_12, hx135_13⟩ := at_T30 (Kd.R_reads' HO_3.out).2.2 x10_3 p135 q135
                    cases e135
                    replace p135 := eq_true p135
                    replace q135 := eq_true q135
                    go_upto_region 17 with (first | ((with_reducible refine gate_callee (f := 19) rfl ?_); refine gL (some 93) Try.func19 #[.slice Ao35 t120.length co35, .int .i64 ((rd_T30 t102 x10_3).f0)] ?_; (with_reducible refine (impl_TaskAt.calls _ _ t120 ((rd_T30 t102 x10_3).f0) t136 _ ?side1 ?side2 A49.out).mono ?_); (case side1 => repeat (first | exact (Kd.R_reads' HO_5.out).2.2 | (with_reducible refine Kd.C_alloc ?_ _) | (with_reducible refine Kd.C_drewN ?_ _) | (with_reducible refine Kd.C_drew ?_))); (case side2 => exact (Kd.R_reads' HO_5.out).2.1); rintro e w51 ⟨rfl, hb⟩; refine ⟨_, rfl, ?_⟩; have n0_ := aM (Kd.R_below (rq HO_3) hb); have n1_ := aM (Kd.R_below (rq HO_5) hb); have n2_ := aM (blk_below (kq BK119) hb); have n3_ := aM (below_step (bq HB) hb); clear HO_3 HO_5 BK119 HB; have HO_3 := n0_; have HO_5 := n1_; have BK119 := n2_; have HB := n3_; clear n0_ n1_ n2_ n3_; (try clear hb); (try clear hb2); (try clear hk); (try clear hi)))
                    (try simp only [Act.put, tA, tB, tC])
                    go_cut [106] (fun v106 wc => ∃ (kq : Nat) (x106_49 : Bool), v106 = .bool x106_49 ∧ Aside0 (laws_FnTasks.j3 kq t102 t120 x10_3 x106_49 = some r) ∧ Aside0 (kq ≤ k3) ∧ Aside0 (Kd.R k30 30 wc w.heap.size (fun k_ => some k_ ≠ ((.slice Ao35 t120.length co35) : Value).ownBlock ∧ k_ ≠ gb119) (.slice (some ad135) t102.length co11) t102) ∧ Aside0 (Kd.R k30 30 wc w.heap.size (fun k_ => some k_ ≠ ((.slice (some ad135) t102.length co11) : Value).ownBlock ∧ k_ ≠ gb119) (.slice Ao35 t120.length co35) t120) ∧ Aside0 (wc.heap[gb119]? = some (.cells #[.int .i64 t105, .int .i64 t106, .int .i64 t107, .int .i64 t108, .bool t109, .int .i64 t110, .int .i64 t111, .int .i64 t112, .int .i64 t113, .int .i64 t114, .int .i64 t115, .int .i64 t116, .int .i64 t117, .int .i64 t118] 30 (0, 0))) ∧ Aside0 (Below w.heap.size w wc))
                    case first =>
                      have H := HC50.out
                      clear HC50
                      by_cases c52 : t136 < 0
                      · rw [if_pos c52] at H
                        have c52b0 : decide (t136 < 0) = true := decide_eq_true c52
                        clear c52
                        (first | rw [c52b0] | (simp only [i64_w, i32_w]; rw [c52b0]) | skip)
                        have H' := Aside0.mk H
                        clear H
                        try go_wp2
                        have n0_ := aM (Kd.R_drew HO_3.out)
                        have n1_ := aM (Kd.R_drew HO_5.out)
                        have n2_ := aM (blk_drew BK119.out)
                        have n3_ := aM (below_drew1 HB.out)
                        clear HO_3 HO_5 BK119 HB
                        have HO_3 := n0_
                        have HO_5 := n1_
                        have BK119 := n2_
                        have HB := n3_
                        clear n0_ n1_ n2_ n3_
                        refine start_ (n := 13) (S := fun w' => True) (ds := []) #[nn,nn,nn,nn,nn,nn,nn,nn,nn,nn,nn,nn,nn] (by kernel_rfl) rfl rfl trivial (fun hHeld => ?_); refine with_tabW laws_FnTasks.tab17 laws_FnTasks.bits17 (fun HT_ HW_ => ?_)
                        generalize w51.drew = w53 at HO_3 HO_5 BK119 HB hHeld ⊢
                        refine pQ (i := 0) (N := some 94) #[yy,nn,nn,nn,nn,nn,nn,nn,nn,nn,nn,nn,nn] (any_of HT_.out (by kernel_rfl)) ?_
                        refine pQ (i := 1) (N := some 95) #[yy,yy,nn,nn,nn,nn,nn,nn,nn,nn,nn,nn,nn] (any_of HT_.out (by kernel_rfl)) ?_
                        refine pQ (i := 2) (N := some 96) #[yy,yy,yy,nn,nn,nn,nn,nn,nn,nn,nn,nn,nn] (any_of HT_.out (by kernel_rfl)) ?_
                        refine pure_ (i := 3) (N := some 97) (v := undef) (a' := ?_) #[yy,yy,yy,yy,nn,nn,nn,nn,nn,nn,nn,nn,nn] rfl rfl (any_of HT_.out (by kernel_rfl)) (fun _ _ _ h => h) (Or.inr ⟨by rfl, rfl⟩) ?_ ?_
                        rotate_left
                        · simp only [Act.put, tA, tB, tC, i64_w, i32_w]
                          rfl
                        refine pure_ (i := 4) (N := some 98) (v := undef) (a' := ?_) #[yy,yy,yy,yy,yy,nn,nn,nn,nn,nn,nn,nn,nn] rfl rfl (any_of HT_.out (by kernel_rfl)) (fun _ _ _ h => h) (Or.inr ⟨by rfl, rfl⟩) ?_ ?_
                        rotate_left
                        · simp only [Act.put, tA, tB, tC, i64_w, i32_w]
                          rfl
                        refine pure_ (i := 5) (N := some 99) (v := undef) (a' := ?_) #[yy,yy,yy,yy,yy,yy,nn,nn,nn,nn,nn,nn,nn] rfl rfl (any_of HT_.out (by kernel_rfl)) (fun _ _ _ h => h) (Or.inr ⟨by rfl, rfl⟩) ?_ ?_
                        rotate_left
                        · simp only [Act.put, tA, tB, tC, i64_w, i32_w]
                          rfl
                        refine pure_ (i := 6) (N := some 100) (v := undef) (a' := ?_) #[yy,yy,yy,yy,yy,yy,yy,nn,nn,nn,nn,nn,nn] rfl rfl (any_of HT_.out (by kernel_rfl)) (fun _ _ _ h => h) (Or.inr ⟨by rfl, rfl⟩) ?_ ?_
                        rotate_left
                        · simp only [Act.put, tA, tB, tC, i64_w, i32_w]
                          rfl
                        refine pure_ (i := 7) (N := some 101) (v := undef) (a' := ?_) #[yy,yy,yy,yy,yy,yy,yy,yy,nn,nn,nn,nn,nn] rfl rfl (any_of HT_.out (by kernel_rfl)) (fun _ _ _ h => h) (Or.inr ⟨by rfl, rfl⟩) ?_ ?_
                        rotate_left
                        · simp only [Act.put, tA, tB, tC, i64_w, i32_w]
                          rfl
                        refine pure_ (i := 8) (N := some 102) (v := undef) (a' := ?_) #[yy,yy,yy,yy,yy,yy,yy,yy,yy,nn,nn,nn,nn] rfl rfl (any_of HT_.out (by kernel_rfl)) (fun _ _ _ h => h) (Or.inr ⟨by rfl, rfl⟩) ?_ ?_
                        rotate_left
                        · simp only [Act.put, tA, tB, tC, i64_w, i32_w]
                          rfl
                        refine pure_ (i := 9) (N := some 103) (v := undef) (a' := ?_) #[yy,yy,yy,yy,yy,yy,yy,yy,yy,yy,nn,nn,nn] rfl rfl (any_of HT_.out (by kernel_rfl)) (fun _ _ _ h => h) (Or.inr ⟨by rfl, rfl⟩) ?_ ?_
                        rotate_left
                        · simp only [Act.put, tA, tB, tC, i64_w, i32_w]
                          rfl
                        refine pure_ (i := 10) (N := some 104) (v := undef) (a' := ?_) #[yy,yy,yy,yy,yy,yy,yy,yy,yy,yy,yy,nn,nn] rfl rfl (any_of HT_.out (by kernel_rfl)) (fun _ _ _ h => h) (Or.inr ⟨by rfl, rfl⟩) ?_ ?_
                        rotate_left
                        · simp only [Act.put, tA, tB, tC, i64_w, i32_w]
                          rfl
                        refine pure_ (i := 11) (N := some 105) (v := undef) (a' := ?_) #[yy,yy,yy,yy,yy,yy,yy,yy,yy,yy,yy,yy,nn] rfl rfl (any_of HT_.out (by kernel_rfl)) (fun _ _ _ h => h) (Or.inr ⟨by rfl, rfl⟩) ?_ ?_
                        rotate_left
                        · simp only [Act.put, tA, tB, tC, i64_w, i32_w]
                          rfl
                        refine pQ (i := 12) (N := some 106) #[yy,yy,yy,yy,yy,yy,yy,yy,yy,yy,yy,yy,yy] (any_of HT_.out (by kernel_rfl)) ?_
                        refine done_ (done_of HT_.out (by kernel_rfl)) ?_
                        try go_wp2
                        go_meet
                        case rel => exact ⟨_, (true), (by first | rfl | (simp; done) | (simp [*]; done)), H', ⟨by have := HJ6.out; have := HJ32.out; have := HK3.out; first | omega | exact Nat.le_refl _⟩, ⟨by (with_reducible repeat (first | apply Kd.R_alloc | apply Kd.R_drewN | apply Kd.R_drew)); exact HO_3.out⟩, ⟨by (with_reducible repeat (first | apply Kd.R_alloc | apply Kd.R_drewN | apply Kd.R_drew)); exact HO_5.out⟩, ⟨by (with_reducible repeat (first | apply bkD | apply bkd | apply bkA)); exact BK119.out⟩, ⟨bq HB⟩⟩
                      rw [if_neg c52] at H
                      have c52b0 : decide (t136 < 0) = false := decide_eq_false c52
                      clear c52
                      (first | rw [c52b0] | (simp only [i64_w, i32_w]; rw [c52b0]) | skip)
                      by_cases c54 : 0 ≤ t136
                      · rw [if_pos c54] at H
                        have c54b0 : decide (0 ≤ t136) = true := decide_eq_true c54
                        clear c54
                        by_cases c55 : t136 < (t120.length : Int)
                        · rw [if_pos c55] at H
                          have c55b0 : decide (t136 < (t120.length : Int)) = true := decide_eq_true c55
                          clear c55
                          have H' := Aside0.mk H
                          clear H
                          try go_wp2
                          have n0_ := aM (Kd.R_drew HO_3.out)
                          have n1_ := aM (Kd.R_drew HO_5.out)
                          have n2_ := aM (blk_drew BK119.out)
                          have n3_ := aM (below_drew1 HB.out)
                          clear HO_3 HO_5 BK119 HB
                          have HO_3 := n0_
                          have HO_5 := n1_
                          have BK119 := n2_
                          have HB := n3_
                          clear n0_ n1_ n2_ n3_
                          have p137 : 0 ≤ (t136 : Int) := of_decide_eq_true (by first | (with_reducible assumption) | assumption)
                          have q137 : t136 < (t120.length : Int) := of_decide_eq_true (by first | (with_reducible assumption) | assumption)
                          obtain ⟨ad137, e137, hx137_0, hx137_1, hx137_2, hx137_3, hx137_4, hx137_5, hx137_6, hx137_7, hx137_8, hx137_9, hx137_10, hx137_11, hx137_12, hx137_13⟩ := at_T30 (Kd.R_reads' HO_5.out).2.2 t136 p137 q137
                          cases e137
                          replace p137 := eq_true p137
                          replace q137 := eq_true q137
                          have p138 : 0 ≤ (x10_3 : Int) := of_decide_eq_true (by first | (with_reducible assumption) | assumption)
                          have q138 : x10_3 < (t102.length : Int) := of_decide_eq_true (by first | (with_reducible assumption) | assumption)
                          obtain ⟨ad138, e138, hx138_0, hx138_1, hx138_2, hx138_3, hx138_4, hx138_5, hx138_6, hx138_7, hx138_8, hx138_9, hx138_10, hx138_11, hx138_12, hx138_13⟩ := at_T30 (Kd.R_reads' HO_3.out).2.2 x10_3 p138 q138
                          obtain rfl : ad135 = ad138 := (by injection e138)
                          replace p138 := eq_true p138
                          replace q138 := eq_true q138
                          refine start_ (n := 13) (S := fun w' => ca14t w' (ad137.add ((t136).toNat * 14)) (.int .i64 ((rd_T30 t120 t136).f0)) (.int .i64 ((rd_T30 t120 t136).f1)) (.int .i64 ((rd_T30 t120 t136).f2)) (.int .i64 ((rd_T30 t120 t136).f3)) (.bool ((rd_T30 t120 t136).f4)) (.int .i64 ((rd_T30 t120 t136).f5)) (.int .i64 ((rd_T30 t120 t136).f6)) (.int .i64 ((rd_T30 t120 t136).f7)) (.int .i64 ((rd_T30 t120 t136).f8)) (.int .i64 ((rd_T30 t120 t136).f9)) (.int .i64 ((rd_T30 t120 t136).f10)) (.int .i64 ((rd_T30 t120 t136).f11)) (.int .i64 ((rd_T30 t120 t136).f12)) (.int .i64 ((rd_T30 t120 t136).f13)) (ca14 w' (ad135.add ((x10_3).toNat * 14)) (.int .i64 ((rd_T30 t102 x10_3).f0)) (.int .i64 ((rd_T30 t102 x10_3).f1)) (.int .i64 ((rd_T30 t102 x10_3).f2)) (.int .i64 ((rd_T30 t102 x10_3).f3)) (.bool ((rd_T30 t102 x10_3).f4)) (.int .i64 ((rd_T30 t102 x10_3).f5)) (.int .i64 ((rd_T30 t102 x10_3).f6)) (.int .i64 ((rd_T30 t102 x10_3).f7)) (.int .i64 ((rd_T30 t102 x10_3).f8)) (.int .i64 ((rd_T30 t102 x10_3).f9)) (.int .i64 ((rd_T30 t102 x10_3).f10)) (.int .i64 ((rd_T30 t102 x10_3).f11)) (.int .i64 ((rd_T30 t102 x10_3).f12)) (.int .i64 ((rd_T30 t102 x10_3).f13)))) (ds := []) #[nn,nn,nn,nn,nn,nn,nn,nn,nn,nn,nn,nn,nn] (by kernel_rfl) rfl rfl ⟨hx137_0, hx137_1, hx137_2, hx137_3, hx137_4, hx137_5, hx137_6, hx137_7, hx137_8, hx137_9, hx137_10, hx137_11, hx137_12, hx137_13, hx138_0, hx138_1, hx138_2, hx138_3, hx138_4, hx138_5, hx138_6, hx138_7, hx138_8, hx138_9, hx138_10, hx138_11, hx138_12, hx138_13⟩ (fun hHeld => ?_); refine with_tabW laws_FnTasks.tab17 laws_FnTasks.bits17 (fun HT_ HW_ => ?_)
                          generalize w51.drew = w56 at HO_3 HO_5 BK119 HB hx137_0 hx137_1 hx137_10 hx137_11 hx137_12 hx137_13 hx137_2 hx137_3 hx137_4 hx137_5 hx137_6 hx137_7 hx137_8 hx137_9 hx138_0 hx138_1 hx138_10 hx138_11 hx138_12 hx138_13 hx138_2 hx138_3 hx138_4 hx138_5 hx138_6 hx138_7 hx138_8 hx138_9 hHeld ⊢
                          refine pQ (i := 0) (N := some 94) #[yy,nn,nn,nn,nn,nn,nn,nn,nn,nn,nn,nn,nn] (any_of HT_.out (by kernel_rfl)) ?_
                          refine pQ (i := 1) (N := some 95) #[yy,yy,nn,nn,nn,nn,nn,nn,nn,nn,nn,nn,nn] (any_of HT_.out (by kernel_rfl)) ?_
                          refine pQ (i := 2) (N := some 96) #[yy,yy,yy,nn,nn,nn,nn,nn,nn,nn,nn,nn,nn] (any_of HT_.out (by kernel_rfl)) ?_
                          refine pQ (i := 3) (N := some 97) #[yy,yy,yy,yy,nn,nn,nn,nn,nn,nn,nn,nn,nn] (any_of HT_.out (by kernel_rfl)) ?_
                          refine pQ (i := 4) (N := some 98) #[yy,yy,yy,yy,yy,nn,nn,nn,nn,nn,nn,nn,nn] (any_of HT_.out (by kernel_rfl)) ?_
                          refine pQ (i := 5) (N := some 99) #[yy,yy,yy,yy,yy,yy,nn,nn,nn,nn,nn,nn,nn] (any_of HT_.out (by kernel_rfl)) ?_
                          refine pQ (i := 7) (N := some 101) #[yy,yy,yy,yy,yy,yy,nn,yy,nn,nn,nn,nn,nn] (any_of HT_.out (by kernel_rfl)) ?_
                          refine pQ (i := 8) (N := some 102) #[yy,yy,yy,yy,yy,yy,nn,yy,yy,nn,nn,nn,nn] (any_of HT_.out (by kernel_rfl)) ?_
                          refine pQ (i := 9) (N := some 103) #[yy,yy,yy,yy,yy,yy,nn,yy,yy,yy,nn,nn,nn] (any_of HT_.out (by kernel_rfl)) ?_
                          refine tQ (i := 6) (N := some 100) #[yy,yy,yy,yy,yy,yy,yy,yy,yy,yy,nn,nn,nn] (take_ofW HT_.out HW_.out (by kernel_rfl)) hHeld ?_
                          refine tQ (i := 10) (N := some 104) #[yy,yy,yy,yy,yy,yy,yy,yy,yy,yy,yy,nn,nn] (take_ofW HT_.out HW_.out (by kernel_rfl)) hHeld ?_
                          refine pQ (i := 11) (N := some 105) #[yy,yy,yy,yy,yy,yy,yy,yy,yy,yy,yy,yy,nn] (any_of HT_.out (by kernel_rfl)) ?_
                          refine pQ (i := 12) (N := some 106) #[yy,yy,yy,yy,yy,yy,yy,yy,yy,yy,yy,yy,yy] (any_of HT_.out (by kernel_rfl)) ?_
                          refine done_ (done_of HT_.out (by kernel_rfl)) ?_
                          try go_wp2
                          go_meet
                          case rel => exact ⟨_, ((!(((rd_T30 t120 t136).f0) == ((rd_T30 t102 x10_3).f0)) || (!(((rd_T30 t120 t136).f1) == ((rd_T30 t102 x10_3).f1)) || (!(((rd_T30 t120 t136).f2) == ((rd_T30 t102 x10_3).f2)) || (!(((rd_T30 t120 t136).f3) == ((rd_T30 t102 x10_3).f3)) || (!(((rd_T30 t120 t136).f4) == ((rd_T30 t102 x10_3).f4)) || (!(((rd_T30 t120 t136).f5) == ((rd_T30 t102 x10_3).f5)) || (!(((rd_T30 t120 t136).f6) == ((rd_T30 t102 x10_3).f6)) || (!(((rd_T30 t120 t136).f7) == ((rd_T30 t102 x10_3).f7)) || (!(((rd_T30 t120 t136).f8) == ((rd_T30 t102 x10_3).f8)) || (!(((rd_T30 t120 t136).f9) == ((rd_T30 t102 x10_3).f9)) || (!(((rd_T30 t120 t136).f10) == ((rd_T30 t102 x10_3).f10)) || (!(((rd_T30 t120 t136).f11) == ((rd_T30 t102 x10_3).f11)) || (!(((rd_T30 t120 t136).f12) == ((rd_T30 t102 x10_3).f12)) || (!(((rd_T30 t120 t136).f13) == ((rd_T30 t102 x10_3).f13))))))))))))))))), (by first | rfl | (simp; done) | (simp [*]; done)), H', ⟨by have := HJ6.out; have := HJ32.out; have := HK3.out; first | omega | exact Nat.le_refl _⟩, ⟨by (with_reducible repeat (first | apply Kd.R_alloc | apply Kd.R_drewN | apply Kd.R_drew)); exact HO_3.out⟩, ⟨by (with_reducible repeat (first | apply Kd.R_alloc | apply Kd.R_drewN | apply Kd.R_drew)); exact HO_5.out⟩, ⟨by (with_reducible repeat (first | apply bkD | apply bkd | apply bkA)); exact BK119.out⟩, ⟨bq HB⟩⟩
                        rw [if_neg c55] at H
                        exact absurd H (by simp)
                      rw [if_neg c54] at H
                      exact absurd H (by simp)
                    case rest =>
                      clear HC50
                      try clear c1
                      try clear p1
                      try clear q1
                      try clear hx1
                      try clear p2
                      try clear c3
                      try clear c4
                      try clear c5
                      try clear p13
                      try clear q13
                      try clear hx13
                      try clear c15
                      try clear c15b0
                      try clear c15b1
                      try clear c15b2
                      try clear c16
                      try clear c17
                      try clear c18
                      try clear c19
                      try clear c19b0
                      try clear c19b1
                      try clear c19b2
                      try clear c30
                      try clear c31
                      try clear c37
                      try clear c37b0
                      try clear c39
                      try clear c39b0
                      try clear c40
                      try clear c40b0
                      try clear c41
                      try clear c41b0
                      try clear c46
                      try clear c47
                      try clear c47b0
                      try clear c48
                      try clear c48b0
                      try clear c52
                      try clear c52b0
                      try clear c54
                      try clear c54b0
                      try clear c55
                      try clear c55b0
                      try clear hfz34_0
                      try clear hx133_0
                      try clear hx133_1
                      try clear hx133_10
                      try clear hx133_11
                      try clear hx133_12
                      try clear hx133_13
                      try clear hx133_2
                      try clear hx133_3
                      try clear hx133_4
                      try clear hx133_5
                      try clear hx133_6
                      try clear hx133_7
                      try clear hx133_8
                      try clear hx133_9
                      try clear hx135_0
                      try clear hx135_1
                      try clear hx135_10
                      try clear hx135_11
                      try clear hx135_12
                      try clear hx135_13
                      try clear hx135_2
                      try clear hx135_3
                      try clear hx135_4
                      try clear hx135_5
                      try clear hx135_6
                      try clear hx135_7
                      try clear hx135_8
                      try clear hx135_9
                      try clear hx137_0
                      try clear hx137_1
                      try clear hx137_10
                      try clear hx137_11
                      try clear hx137_12
                      try clear hx137_13
                      try clear hx137_2
                      try clear hx137_3
                      try clear hx137_4
                      try clear hx137_5
                      try clear hx137_6
                      try clear hx137_7
                      try clear hx137_8
                      try clear hx137_9
                      try clear hx138_0
                      try clear hx138_1
                      try clear hx138_10
                      try clear hx138_11
                      try clear hx138_12
                      try clear hx138_13
                      try clear hx138_2
                      try clear hx138_3
                      try clear hx138_4
                      try clear hx138_5
                      try clear hx138_6
                      try clear hx138_7
                      try clear hx138_8
                      try clear hx138_9
                      try clear p1
                      try clear p13
                      try clear p133
                      try clear p135
                      try clear p137
                      try clear p138
                      try clear p2
                      try clear q1
                      try clear q13
                      try clear q133
                      try clear q135
                      try clear q137
                      try clear q138
                      obtain ⟨kq, x106_49, rfl, HA, HJ49, HO_3, HO_5, BK119, HB⟩ := hcut
                      cases kq with
                      | zero => exact absurd HA.out (by simp [laws_FnTasks.j3])
                      | succ kj49 =>
                        have H := HA.out
                        clear HA
                        simp only [laws_FnTasks.j3] at H
                        by_cases c57 : x106_49 = true
                        · subst c57
                          have H1 : (some false) = some r := by rw [if_pos rfl] at H; exact H
                          clear H
                          have H := H1
                          clear H1
                          exact absurd ((Option.some.inj H).trans HRT.out) Bool.false_ne_true
                        replace c57 := Bool.eq_false_iff.mpr c57
                        subst c57
                        have H1 : (laws_FnTasks.l0 kj49 t102 t120 (wrap64 (x10_3 + 1))) = some r := by rw [if_neg (show ¬ (false = true) by decide)] at H; exact H
                        clear H
                        have H := H1
                        clear H1
                        have H' := Aside0.mk H
                        clear H
                        go_wp2
                        go_roundg kj49
                        case measure => have := HJ6.out; have := HJ32.out; have := HK3.out; have := HJ49.out; omega
                        case rel => exact ⟨(wrap64 (x10_3 + 1)), (by first | rfl | (simp; done) | (simp [*]; done)), H', ⟨by have := HJ6.out; have := HJ32.out; have := HK3.out; have := HJ49.out; omega⟩, ⟨by (with_reducible repeat (first | apply Kd.R_alloc | apply Kd.R_drewN | apply Kd.R_drew)); exact HO_3.out⟩, ⟨by (with_reducible repeat (first | apply Kd.R_alloc | apply Kd.R_drewN | apply Kd.R_drew)); exact HO_5.out⟩, ⟨by (with_reducible repeat (first | apply bkD | apply bkd | apply bkA)); exact BK119.out⟩, ⟨bq HB⟩⟩
                  rw [if_neg c48] at H
                  exact absurd H (by simp)
                rw [if_neg c47] at H
                have c47b0 : decide (x10_3 < (t102.length : Int)) = false := decide_eq_false c47
                clear c47
                replace H := Option.bind_eq_some_iff.mp H
                obtain ⟨t139, A580, H⟩ := H
                replace H : (if t139 = true then (some ((t120.length : Int) == (wrap64 ((t102.length : Int) + 1)))) else (some false)) = some r := H
                have A58 := Aside0.mk A580
                clear A580
                by_cases c59 : t139 = true
                · subst c59
                  have H1 : (some ((t120.length : Int) == (wrap64 ((t102.length : Int) + 1)))) = some r := by rw [if_pos rfl] at H; exact H
                  clear H
                  have H := H1
                  clear H1
                  obtain rfl := Option.some.inj H
                  go_wp2_with (first | ((with_reducible refine gate_callee (f := 17) rfl ?_); refine gL (some 108) Try.func17 #[.slice Ao35 t120.length co35] ?_; (with_reducible refine (impl_TasksOk.calls k3 _ _ t120 true _ ?side1 ?side2 A58.out).mono ?_); (case side1 => repeat (first | exact (Kd.R_reads' HO_5.out).2.2 | (with_reducible refine Kd.C_alloc ?_ _) | (with_reducible refine Kd.C_drewN ?_ _) | (with_reducible refine Kd.C_drew ?_))); (case side2 => exact (Kd.R_reads' HO_5.out).2.1); rintro e w60 ⟨rfl, hb⟩; refine ⟨_, rfl, ?_⟩; have n0_ := aM (Kd.R_below (rq HO_3) hb); have n1_ := aM (Kd.R_below (rq HO_5) hb); have n2_ := aM (blk_below (kq BK119) hb); have n3_ := aM (below_step (bq HB) hb); clear HO_3 HO_5 BK119 HB; have HO_3 := n0_; have HO_5 := n1_; have BK119 := n2_; have HB := n3_; clear n0_ n1_ n2_ n3_; (try clear hb); (try clear hb2); (try clear hk); (try clear hi)))
                  all_goals go_ret
                  all_goals exact ⟨by first | rfl | (simp <;> rfl) | (simp [*] <;> rfl), bq HB⟩
                replace c59 := Bool.eq_false_iff.mpr c59
                subst c59
                have H1 : (some false) = some r := by rw [if_neg (show ¬ (false = true) by decide)] at H; exact H
                clear H
                have H := H1
                clear H1
                exact absurd ((Option.some.inj H).trans HRT.out) Bool.false_ne_true
      replace c31 := Bool.eq_false_iff.mpr c31
      subst c31
      have H1 : (if (t120.length : Int) = (t102.length : Int) then (some true) else (some ((t120.length : Int) == 0))) = some r := by rw [if_neg (show ¬ (false = true) by decide)] at H; exact H
      clear H
      have H := H1
      clear H1
      by_cases c61 : (t120.length : Int) = (t102.length : Int)
      · rw [if_pos c61] at H
        have c61b0 : ((t120.length : Int) == (t102.length : Int)) = true := beq_iff_eq.mpr c61
        have c61b1 : ((t120.length : Int) != (t102.length : Int)) = false := bne_eq_false_iff_eq.mpr c61
        have c61b2 : (t120.length == t102.length) = true := by first | simpa using c61 | (simp at c61 ⊢; omega)
        clear c61
        obtain rfl := Option.some.inj H
        obtain ⟨Ao62, co62, eo62⟩ := Kd.R_slice HO_5.out
        subst eo62
        go_wp2
        all_goals go_ret
        all_goals exact ⟨by first | rfl | (simp <;> rfl) | (simp [*] <;> rfl), bq HB⟩
      rw [if_neg c61] at H
      have c61b0 : ((t120.length : Int) == (t102.length : Int)) = false := beq_eq_false_iff_ne.mpr c61
      have c61b1 : ((t120.length : Int) != (t102.length : Int)) = true := bne_iff_ne.mpr c61
      have c61b2 : (t120.length == t102.length) = false := by first | simpa using c61 | (simp at c61 ⊢; omega)
      obtain rfl := Option.some.inj H
      obtain ⟨Ao63, co63, eo63⟩ := Kd.R_slice HO_5.out
      subst eo63
      go_wp2
      all_goals go_ret
      all_goals exact ⟨by first | rfl | (simp <;> rfl) | (simp [*] <;> rfl), bq HB⟩

/-- THE ONE PURE STATEMENT of laws_FnTasks: yours. -/
def laws_FnTasks.Pure : Prop := ∀ (l0 : List Int), l0.length ≤ maxLen → l0.length * 1 ≤ 140737488351232 → (∀ x ∈ l0, (Lit.int .u8 x).wf = true) → ∃ k, laws_FnTasks.f k l0 = some true
theorem laws_FnTasks.walk (P : laws_FnTasks.Pure) (a0 : Option Addr) (len0 cap0 : Nat) (z0 : List Int) (w : World) (w0 : (a0 = none ∧ len0 = 0 ∧ cap0 = 0 ∧ z0 = []) ∨ ∃ x, a0 = some x ∧ len0 ≤ cap0 ∧ cap0 ≤ maxLen ∧ z0.length = cap0 ∧ (∀ i, i < z0.length → w.cell? (x.add i) = some (.int .u8 (z0.getD i 0))) ∧ ∀ n ∈ z0, (Lit.int .u8 n).wf = true) (y0 : len0 * 1 ≤ 140737488351232) :
    Calls Try.prog 4 #[.slice a0 len0 cap0] w fun e w' => e = .returned (.bool true) ∧ Below w.heap.size w w' := by
  obtain ⟨l0, rfl, hr0, hm0, hw0, hc0⟩ := ReadsInt.ofRowC w0
  obtain ⟨k, h⟩ := P l0 hm0 y0 hw0
  refine (laws_FnTasks.calls k _ _ l0 true w (Kd.C_of_reads (d := (0 : Int)) (h1 := fun _ => rfl) hr0) hc0 rfl h).mono ?_
  rintro e w' ⟨rfl, hd⟩
  exact ⟨rfl, hd⟩

end Go.Proofs.Ytbihinhckmfplaa.Print
