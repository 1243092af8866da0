/- Go functions as plain Lean functions, and that the Go code answers just as these, wherever they answer. Conditions: those of each theorem. Written by a program of this session (wip/patch.py). -/
import Derived.Test.YtbihinhckmfplaaPrint0
import Derived.Test.YtbihinhckmfplaaPrintImplTaskPut
import Derived.Test.YtbihinhckmfplaaPrintLawsEqTaskS
import Derived.Test.YtbihinhckmfplaaPrintLawsHeldTaskS
import Derived.Test.YtbihinhckmfplaaPrintLawsMarkTaskS
import Derived.Test.YtbihinhckmfplaaPrintLawsSzTaskS
import Derived.Test.YtbihinhckmfplaaPrintSpecTaskPut
namespace Go.Proofs.Ytbihinhckmfplaa.Print
open Go.RowKit Go.Proofs.Ytbihinhckmfplaa.Base Go.Proofs.YtbihinhckmfplaaW.PrintWords Go.Proofs.YtbihinhckmfplaaW.PrintLast Go.Proofs.YtbihinhckmfplaaW.PrintMore
attribute [local go_sem] max2_int min2_int max_two min_two max_three min_three max_four min_four   -- for this text's walks alone
set_option linter.unusedVariables false
set_option linter.unusedSimpArgs false

/-! ### laws_FnExactTaskPut: function 3 -/
mutual
def laws_FnExactTaskPut.j0 : Nat → List (S24) → List (S30) → Bool → List (S30) → List (S30) → Bool → Bool → Int → Int → Int → Int → Bool → Int → Int → Int → Int → Int → Int → Int → Int → Int → Option (Bool)
  | 0, _, _, _, _, _, _, _, _, _, _, _, _, _, _, _, _, _, _, _, _, _ => none
  | k + 1, x0, x6, x7, x8, x9, x10, x46, x102000, x102001, x102002, x102003, x102004, x102005, x102006, x102007, x102008, x102009, x102010, x102011, x102012, x102013 => if x46 = true then (some false) else ((laws_toTaskS.f k x0).bind fun t146 => ((laws_eqTaskS.f k x8 t146).bind fun t149 => (if t149 = true then ((laws_markTaskS.f k x8 1).bind fun bt150 => (if bt150.1 < 0 then (laws_FnExactTaskPut.j1 k x0 x6 x7 x9 true x102000 x102001 x102002 x102003 x102004 x102005 x102006 x102007 x102008 x102009 x102010 x102011 x102012 x102013) else ((laws_eqTaskS.f k x9 x6).bind fun t152 => (if t152 = true then (laws_FnExactTaskPut.j1 k x0 x6 x7 x9 (x10 != x7) x102000 x102001 x102002 x102003 x102004 x102005 x102006 x102007 x102008 x102009 x102010 x102011 x102012 x102013) else (laws_FnExactTaskPut.j1 k x0 x6 x7 x9 true x102000 x102001 x102002 x102003 x102004 x102005 x102006 x102007 x102008 x102009 x102010 x102011 x102012 x102013))))) else (some false))))
def laws_FnExactTaskPut.j1 : Nat → List (S24) → List (S30) → Bool → List (S30) → Bool → Int → Int → Int → Int → Bool → Int → Int → Int → Int → Int → Int → Int → Int → Int → Option (Bool)
  | 0, _, _, _, _, _, _, _, _, _, _, _, _, _, _, _, _, _, _, _ => none
  | k + 1, x0, x6, x7, x9, x67, x102000, x102001, x102002, x102003, x102004, x102005, x102006, x102007, x102008, x102009, x102010, x102011, x102012, x102013 => if x67 = true then (some false) else ((laws_markTaskS.f k x9 1).bind fun bt153 => ((laws_heldTaskS.f k bt153.2 1).bind fun t155 => (if t155 < 0 then (some false) else (if t155 = bt153.1 then ((laws_toTaskS.f k x0).bind fun t156 => ((laws_toTask.f x102000 x102001 x102002 x102003 x102004 x102005 x102006 x102007 x102008 x102009 x102010 x102011 x102012 x102013).bind fun bt159 => ((impl_TaskPut.f k t156 bt159.1 bt159.2.1 bt159.2.2.1 bt159.2.2.2.1 bt159.2.2.2.2.1 bt159.2.2.2.2.2.1 bt159.2.2.2.2.2.2.1 bt159.2.2.2.2.2.2.2.1 bt159.2.2.2.2.2.2.2.2.1 bt159.2.2.2.2.2.2.2.2.2.1 bt159.2.2.2.2.2.2.2.2.2.2.1 bt159.2.2.2.2.2.2.2.2.2.2.2.1 bt159.2.2.2.2.2.2.2.2.2.2.2.2.1 bt159.2.2.2.2.2.2.2.2.2.2.2.2.2).bind fun bt173 => ((laws_eqTaskS.f k bt173.1 x6).bind fun t177 => (if t177 = true then (laws_FnExactTaskPut.j2 k bt153.2 bt153.1 (bt173.2 != x7)) else (laws_FnExactTaskPut.j2 k bt153.2 bt153.1 true)))))) else (some false)))))
def laws_FnExactTaskPut.j2 : Nat → List (S30) → Int → Bool → Option (Bool)
  | 0, _, _, _ => none
  | k + 1, x9, x12, x95 => if x95 = true then (some false) else ((laws_heldTaskS.f k x9 1).bind fun t178 => (if t178 < 0 then (some false) else (if t178 = x12 then (some true) else (some false))))
end
def laws_FnExactTaskPut.f (k : Nat) (l0 : List (S24)) (a1_0 : Int) (a1_1 : Int) (a1_2 : Int) (a1_3 : Int) (a1_4 : Bool) (a1_5 : Int) (a1_6 : Int) (a1_7 : Int) (a1_8 : Int) (a1_9 : Int) (a1_10 : Int) (a1_11 : Int) (a1_12 : Int) (a1_13 : Int) : Option (Bool) := (laws_szTaskS.f l0 1048576).bind fun t102 => (if t102 < 0 then (some true) else ((laws_toTaskS.f k l0).bind fun t103 => ((laws_toTask.f a1_0 a1_1 a1_2 a1_3 a1_4 a1_5 a1_6 a1_7 a1_8 a1_9 a1_10 a1_11 a1_12 a1_13).bind fun bt106 => ((spec_TaskPut.f k t103 bt106.1 bt106.2.1 bt106.2.2.1 bt106.2.2.2.1 bt106.2.2.2.2.1 bt106.2.2.2.2.2.1 bt106.2.2.2.2.2.2.1 bt106.2.2.2.2.2.2.2.1 bt106.2.2.2.2.2.2.2.2.1 bt106.2.2.2.2.2.2.2.2.2.1 bt106.2.2.2.2.2.2.2.2.2.2.1 bt106.2.2.2.2.2.2.2.2.2.2.2.1 bt106.2.2.2.2.2.2.2.2.2.2.2.2.1 bt106.2.2.2.2.2.2.2.2.2.2.2.2.2).bind fun bt120 => ((laws_toTaskS.f k l0).bind fun t124 => ((laws_toTask.f a1_0 a1_1 a1_2 a1_3 a1_4 a1_5 a1_6 a1_7 a1_8 a1_9 a1_10 a1_11 a1_12 a1_13).bind fun bt127 => ((impl_TaskPut.f k t124 bt127.1 bt127.2.1 bt127.2.2.1 bt127.2.2.2.1 bt127.2.2.2.2.1 bt127.2.2.2.2.2.1 bt127.2.2.2.2.2.2.1 bt127.2.2.2.2.2.2.2.1 bt127.2.2.2.2.2.2.2.2.1 bt127.2.2.2.2.2.2.2.2.2.1 bt127.2.2.2.2.2.2.2.2.2.2.1 bt127.2.2.2.2.2.2.2.2.2.2.2.1 bt127.2.2.2.2.2.2.2.2.2.2.2.2.1 bt127.2.2.2.2.2.2.2.2.2.2.2.2.2).bind fun bt141 => ((laws_eqTaskS.f k bt141.1 bt120.1).bind fun t145 => (if t145 = true then (laws_FnExactTaskPut.j0 k l0 bt120.1 bt120.2 t124 bt141.1 bt141.2 (bt141.2 != bt120.2) a1_0 a1_1 a1_2 a1_3 a1_4 a1_5 a1_6 a1_7 a1_8 a1_9 a1_10 a1_11 a1_12 a1_13) else (laws_FnExactTaskPut.j0 k l0 bt120.1 bt120.2 t124 bt141.1 bt141.2 true a1_0 a1_1 a1_2 a1_3 a1_4 a1_5 a1_6 a1_7 a1_8 a1_9 a1_10 a1_11 a1_12 a1_13))))))))))
theorem laws_FnExactTaskPut.mono_l : ∀ k, (∀ y0 y1 y2 y3 y4 y5 y6 y7 y8 y9 y10 y11 y12 y13 y14 y15 y16 y17 y18 y19 y20, LeO (laws_FnExactTaskPut.j0 k y0 y1 y2 y3 y4 y5 y6 y7 y8 y9 y10 y11 y12 y13 y14 y15 y16 y17 y18 y19 y20) (laws_FnExactTaskPut.j0 (k + 1) y0 y1 y2 y3 y4 y5 y6 y7 y8 y9 y10 y11 y12 y13 y14 y15 y16 y17 y18 y19 y20)) ∧ (∀ y0 y1 y2 y3 y4 y5 y6 y7 y8 y9 y10 y11 y12 y13 y14 y15 y16 y17 y18, LeO (laws_FnExactTaskPut.j1 k y0 y1 y2 y3 y4 y5 y6 y7 y8 y9 y10 y11 y12 y13 y14 y15 y16 y17 y18) (laws_FnExactTaskPut.j1 (k + 1) y0 y1 y2 y3 y4 y5 y6 y7 y8 y9 y10 y11 y12 y13 y14 y15 y16 y17 y18)) ∧ (∀ y0 y1 y2, LeO (laws_FnExactTaskPut.j2 k y0 y1 y2) (laws_FnExactTaskPut.j2 (k + 1) y0 y1 y2))
  | 0 => ⟨fun _ _ _ _ _ _ _ _ _ _ _ _ _ _ _ _ _ _ _ _ _ r h => by simp [laws_FnExactTaskPut.j0] at h, fun _ _ _ _ _ _ _ _ _ _ _ _ _ _ _ _ _ _ _ r h => by simp [laws_FnExactTaskPut.j1] at h, fun _ _ _ r h => by simp [laws_FnExactTaskPut.j2] at h⟩
  | k + 1 => by
    obtain ⟨ih0, ih1, ih2⟩ := laws_FnExactTaskPut.mono_l k
    refine ⟨?_, ?_, ?_⟩
    · intro y0 y1 y2 y3 y4 y5 y6 y7 y8 y9 y10 y11 y12 y13 y14 y15 y16 y17 y18 y19 y20
      unfold laws_FnExactTaskPut.j0
      repeat' first
      | (with_reducible exact ih0 _ _ _ _ _ _ _ _ _ _ _ _ _ _ _ _ _ _ _ _ _)
      | (with_reducible exact ih1 _ _ _ _ _ _ _ _ _ _ _ _ _ _ _ _ _ _ _)
      | (with_reducible exact ih2 _ _ _)
      | (with_reducible exact impl_TaskPut.mono _ _ _ _ _ _ _ _ _ _ _ _ _ _ _ _)
      | (with_reducible exact laws_eqTaskS.mono _ _ _)
      | (with_reducible exact laws_heldTaskS.mono _ _ _)
      | (with_reducible exact laws_markTaskS.mono _ _ _)
      | (with_reducible exact laws_toTaskS.mono _ _)
      | (with_reducible exact spec_TaskPut.mono _ _ _ _ _ _ _ _ _ _ _ _ _ _ _ _)
      | (with_reducible exact LeO.refl _)
      | (with_reducible exact LeO.none _)
      | (with_reducible refine LeO.ite ?_ ?_)
      | (with_reducible refine LeO.bind ?_ (fun _ => ?_))
      | exact ih0 _ _ _ _ _ _ _ _ _ _ _ _ _ _ _ _ _ _ _ _ _
      | exact ih1 _ _ _ _ _ _ _ _ _ _ _ _ _ _ _ _ _ _ _
      | exact ih2 _ _ _
      | exact impl_TaskPut.mono _ _ _ _ _ _ _ _ _ _ _ _ _ _ _ _
      | exact laws_eqTaskS.mono _ _ _
      | exact laws_heldTaskS.mono _ _ _
      | exact laws_markTaskS.mono _ _ _
      | exact laws_toTaskS.mono _ _
      | exact spec_TaskPut.mono _ _ _ _ _ _ _ _ _ _ _ _ _ _ _ _
      | exact LeO.none _
      | refine LeO.ite ?_ ?_
      | refine LeO.bind ?_ (fun _ => ?_)
    · intro y0 y1 y2 y3 y4 y5 y6 y7 y8 y9 y10 y11 y12 y13 y14 y15 y16 y17 y18
      unfold laws_FnExactTaskPut.j1
      repeat' first
      | (with_reducible exact ih0 _ _ _ _ _ _ _ _ _ _ _ _ _ _ _ _ _ _ _ _ _)
      | (with_reducible exact ih1 _ _ _ _ _ _ _ _ _ _ _ _ _ _ _ _ _ _ _)
      | (with_reducible exact ih2 _ _ _)
      | (with_reducible exact impl_TaskPut.mono _ _ _ _ _ _ _ _ _ _ _ _ _ _ _ _)
      | (with_reducible exact laws_eqTaskS.mono _ _ _)
      | (with_reducible exact laws_heldTaskS.mono _ _ _)
      | (with_reducible exact laws_markTaskS.mono _ _ _)
      | (with_reducible exact laws_toTaskS.mono _ _)
      | (with_reducible exact spec_TaskPut.mono _ _ _ _ _ _ _ _ _ _ _ _ _ _ _ _)
      | (with_reducible exact LeO.refl _)
      | (with_reducible exact LeO.none _)
      | (with_reducible refine LeO.ite ?_ ?_)
      | (with_reducible refine LeO.bind ?_ (fun _ => ?_))
      | exact ih0 _ _ _ _ _ _ _ _ _ _ _ _ _ _ _ _ _ _ _ _ _
      | exact ih1 _ _ _ _ _ _ _ _ _ _ _ _ _ _ _ _ _ _ _
      | exact ih2 _ _ _
      | exact impl_TaskPut.mono _ _ _ _ _ _ _ _ _ _ _ _ _ _ _ _
      | exact laws_eqTaskS.mono _ _ _
      | exact laws_heldTaskS.mono _ _ _
      | exact laws_markTaskS.mono _ _ _
      | exact laws_toTaskS.mono _ _
      | exact spec_TaskPut.mono _ _ _ _ _ _ _ _ _ _ _ _ _ _ _ _
      | exact LeO.none _
      | refine LeO.ite ?_ ?_
      | refine LeO.bind ?_ (fun _ => ?_)
    intro y0 y1 y2
    unfold laws_FnExactTaskPut.j2
    repeat' first
    | (with_reducible exact ih0 _ _ _ _ _ _ _ _ _ _ _ _ _ _ _ _ _ _ _ _ _)
    | (with_reducible exact ih1 _ _ _ _ _ _ _ _ _ _ _ _ _ _ _ _ _ _ _)
    | (with_reducible exact ih2 _ _ _)
    | (with_reducible exact impl_TaskPut.mono _ _ _ _ _ _ _ _ _ _ _ _ _ _ _ _)
    | (with_reducible exact laws_eqTaskS.mono _ _ _)
    | (with_reducible exact laws_heldTaskS.mono _ _ _)
    | (with_reducible exact laws_markTaskS.mono _ _ _)
    | (with_reducible exact laws_toTaskS.mono _ _)
    | (with_reducible exact spec_TaskPut.mono _ _ _ _ _ _ _ _ _ _ _ _ _ _ _ _)
    | (with_reducible exact LeO.refl _)
    | (with_reducible exact LeO.none _)
    | (with_reducible refine LeO.ite ?_ ?_)
    | (with_reducible refine LeO.bind ?_ (fun _ => ?_))
    | exact ih0 _ _ _ _ _ _ _ _ _ _ _ _ _ _ _ _ _ _ _ _ _
    | exact ih1 _ _ _ _ _ _ _ _ _ _ _ _ _ _ _ _ _ _ _
    | exact ih2 _ _ _
    | exact impl_TaskPut.mono _ _ _ _ _ _ _ _ _ _ _ _ _ _ _ _
    | exact laws_eqTaskS.mono _ _ _
    | exact laws_heldTaskS.mono _ _ _
    | exact laws_markTaskS.mono _ _ _
    | exact laws_toTaskS.mono _ _
    | exact spec_TaskPut.mono _ _ _ _ _ _ _ _ _ _ _ _ _ _ _ _
    | exact LeO.none _
    | refine LeO.ite ?_ ?_
    | refine LeO.bind ?_ (fun _ => ?_)
theorem laws_FnExactTaskPut.mono : ∀ a0 a1 a2 a3 a4 a5 a6 a7 a8 a9 a10 a11 a12 a13 a14 k, LeO (laws_FnExactTaskPut.f k a0 a1 a2 a3 a4 a5 a6 a7 a8 a9 a10 a11 a12 a13 a14) (laws_FnExactTaskPut.f (k + 1) a0 a1 a2 a3 a4 a5 a6 a7 a8 a9 a10 a11 a12 a13 a14) := by
  intro a0 a1 a2 a3 a4 a5 a6 a7 a8 a9 a10 a11 a12 a13 a14 k
  obtain ⟨ih0, ih1, ih2⟩ := laws_FnExactTaskPut.mono_l k
  unfold laws_FnExactTaskPut.f
  repeat' first
      | (with_reducible exact ih0 _ _ _ _ _ _ _ _ _ _ _ _ _ _ _ _ _ _ _ _ _)
      | (with_reducible exact ih1 _ _ _ _ _ _ _ _ _ _ _ _ _ _ _ _ _ _ _)
      | (with_reducible exact ih2 _ _ _)
      | (with_reducible exact impl_TaskPut.mono _ _ _ _ _ _ _ _ _ _ _ _ _ _ _ _)
      | (with_reducible exact laws_eqTaskS.mono _ _ _)
      | (with_reducible exact laws_heldTaskS.mono _ _ _)
      | (with_reducible exact laws_markTaskS.mono _ _ _)
      | (with_reducible exact laws_toTaskS.mono _ _)
      | (with_reducible exact spec_TaskPut.mono _ _ _ _ _ _ _ _ _ _ _ _ _ _ _ _)
      | (with_reducible exact LeO.refl _)
      | (with_reducible exact LeO.none _)
      | (with_reducible refine LeO.ite ?_ ?_)
      | (with_reducible refine LeO.bind ?_ (fun _ => ?_))
      | exact ih0 _ _ _ _ _ _ _ _ _ _ _ _ _ _ _ _ _ _ _ _ _
      | exact ih1 _ _ _ _ _ _ _ _ _ _ _ _ _ _ _ _ _ _ _
      | exact ih2 _ _ _
      | exact impl_TaskPut.mono _ _ _ _ _ _ _ _ _ _ _ _ _ _ _ _
      | exact laws_eqTaskS.mono _ _ _
      | exact laws_heldTaskS.mono _ _ _
      | exact laws_markTaskS.mono _ _ _
      | exact laws_toTaskS.mono _ _
      | exact spec_TaskPut.mono _ _ _ _ _ _ _ _ _ _ _ _ _ _ _ _
      | exact LeO.none _
      | refine LeO.ite ?_ ?_
      | refine LeO.bind ?_ (fun _ => ?_)
def laws_FnExactTaskPut.T5 : Bool × List (List Nat × List Nat) := (true, [([], []), ([0], [0]), ([], []), ([2, 1], [2]), ([1, 3, 3], [1, 3]), ([4], [4]), ([5], [5]), ([5], [5]), ([6, 4, 0, 1, 2, 3, 4, 5, 6], [6]), ([7, 8, 0, 1, 2, 3, 4, 5, 6, 7, 8], [7])])
def laws_FnExactTaskPut.B5 : List Nat := [0, 1, 0, 7, 15, 31, 63, 63, 127, 511]
theorem laws_FnExactTaskPut.tab5 : rtab .any (opsOf Try.f3 5) = laws_FnExactTaskPut.T5 := by kernel_rfl
theorem laws_FnExactTaskPut.bits5 : waitsOk laws_FnExactTaskPut.T5.2 laws_FnExactTaskPut.B5 = true := by kernel_rfl
def laws_FnExactTaskPut.T24 : Bool × List (List Nat × List Nat) := (true, [([], []), ([0], [0]), ([], []), ([2, 1], [2]), ([1, 3, 3], [1, 3]), ([4], [4]), ([5], [5]), ([5], [5]), ([6, 4, 0, 1, 2, 3, 4, 5, 6], [6]), ([7, 8, 0, 1, 2, 3, 4, 5, 6, 7, 8], [7])])
def laws_FnExactTaskPut.B24 : List Nat := [0, 1, 0, 7, 15, 31, 63, 63, 127, 511]
theorem laws_FnExactTaskPut.tab24 : rtab .any (opsOf Try.f3 24) = laws_FnExactTaskPut.T24 := by kernel_rfl
theorem laws_FnExactTaskPut.bits24 : waitsOk laws_FnExactTaskPut.T24.2 laws_FnExactTaskPut.B24 = true := by kernel_rfl
set_option maxHeartbeats 8000000 in
set_option maxRecDepth 100000 in
theorem laws_FnExactTaskPut.calls (k : Nat) (A0 : Option Addr) (c0 : Nat) (l0 : List (S24)) (a1_0 : Int) (a1_1 : Int) (a1_2 : Int) (a1_3 : Int) (a1_4 : Bool) (a1_5 : Int) (a1_6 : Int) (a1_7 : Int) (a1_8 : Int) (a1_9 : Int) (a1_10 : Int) (a1_11 : Int) (a1_12 : Int) (a1_13 : Int) (r : Bool) (w : World) (hr0 : Kd.C k24 w A0 l0.length l0) (hc0 : l0.length ≤ c0) (hrt : r = true) (h : laws_FnExactTaskPut.f k l0 a1_0 a1_1 a1_2 a1_3 a1_4 a1_5 a1_6 a1_7 a1_8 a1_9 a1_10 a1_11 a1_12 a1_13 = some r) :
    Calls Try.prog 3 #[.slice A0 l0.length c0, .agg #[.int .i64 a1_0, .int .i64 a1_1, .int .i64 a1_2, .int .i64 a1_3, .bool a1_4, .int .i64 a1_5, .int .i64 a1_6, .int .i64 a1_7, .int .i64 a1_8, .int .i64 a1_9, .int .i64 a1_10, .int .i64 a1_11, .int .i64 a1_12, .int .i64 a1_13]] w fun e w' => e = .returned (.bool r) ∧ Below w.heap.size w w' := by
  have hu24 := Try.underlying24
  have HR0 := Aside0.mk hr0
  have HC0 := Aside0.mk hc0
  clear hr0 hc0
  have HB := aM (Below.refl w.heap.size w)
  have HRT := Aside0.mk hrt
  clear hrt
  have H : ((laws_szTaskS.f l0 1048576).bind fun t102 => (if t102 < 0 then (some true) else ((laws_toTaskS.f k l0).bind fun t103 => ((laws_toTask.f a1_0 a1_1 a1_2 a1_3 a1_4 a1_5 a1_6 a1_7 a1_8 a1_9 a1_10 a1_11 a1_12 a1_13).bind fun bt106 => ((spec_TaskPut.f k t103 bt106.1 bt106.2.1 bt106.2.2.1 bt106.2.2.2.1 bt106.2.2.2.2.1 bt106.2.2.2.2.2.1 bt106.2.2.2.2.2.2.1 bt106.2.2.2.2.2.2.2.1 bt106.2.2.2.2.2.2.2.2.1 bt106.2.2.2.2.2.2.2.2.2.1 bt106.2.2.2.2.2.2.2.2.2.2.1 bt106.2.2.2.2.2.2.2.2.2.2.2.1 bt106.2.2.2.2.2.2.2.2.2.2.2.2.1 bt106.2.2.2.2.2.2.2.2.2.2.2.2.2).bind fun bt120 => ((laws_toTaskS.f k l0).bind fun t124 => ((laws_toTask.f a1_0 a1_1 a1_2 a1_3 a1_4 a1_5 a1_6 a1_7 a1_8 a1_9 a1_10 a1_11 a1_12 a1_13).bind fun bt127 => ((impl_TaskPut.f k t124 bt127.1 bt127.2.1 bt127.2.2.1 bt127.2.2.2.1 bt127.2.2.2.2.1 bt127.2.2.2.2.2.1 bt127.2.2.2.2.2.2.1 bt127.2.2.2.2.2.2.2.1 bt127.2.2.2.2.2.2.2.2.1 bt127.2.2.2.2.2.2.2.2.2.1 bt127.2.2.2.2.2.2.2.2.2.2.1 bt127.2.2.2.2.2.2.2.2.2.2.2.1 bt127.2.2.2.2.2.2.2.2.2.2.2.2.1 bt127.2.2.2.2.2.2.2.2.2.2.2.2.2).bind fun bt141 => ((laws_eqTaskS.f k bt141.1 bt120.1).bind fun t145 => (if t145 = true then (laws_FnExactTaskPut.j0 k l0 bt120.1 bt120.2 t124 bt141.1 bt141.2 (bt141.2 != bt120.2) a1_0 a1_1 a1_2 a1_3 a1_4 a1_5 a1_6 a1_7 a1_8 a1_9 a1_10 a1_11 a1_12 a1_13) else (laws_FnExactTaskPut.j0 k l0 bt120.1 bt120.2 t124 bt141.1 bt141.2 true a1_0 a1_1 a1_2 a1_3 a1_4 a1_5 a1_6 a1_7 a1_8 a1_9 a1_10 a1_11 a1_12 a1_13))))))))))) = some r := h
  clear h
  replace H := Option.bind_eq_some_iff.mp H
  obtain ⟨t102, A30, H⟩ := H
  replace H : (if t102 < 0 then (some true) else ((laws_toTaskS.f k l0).bind fun t103 => ((laws_toTask.f a1_0 a1_1 a1_2 a1_3 a1_4 a1_5 a1_6 a1_7 a1_8 a1_9 a1_10 a1_11 a1_12 a1_13).bind fun bt106 => ((spec_TaskPut.f k t103 bt106.1 bt106.2.1 bt106.2.2.1 bt106.2.2.2.1 bt106.2.2.2.2.1 bt106.2.2.2.2.2.1 bt106.2.2.2.2.2.2.1 bt106.2.2.2.2.2.2.2.1 bt106.2.2.2.2.2.2.2.2.1 bt106.2.2.2.2.2.2.2.2.2.1 bt106.2.2.2.2.2.2.2.2.2.2.1 bt106.2.2.2.2.2.2.2.2.2.2.2.1 bt106.2.2.2.2.2.2.2.2.2.2.2.2.1 bt106.2.2.2.2.2.2.2.2.2.2.2.2.2).bind fun bt120 => ((laws_toTaskS.f k l0).bind fun t124 => ((laws_toTask.f a1_0 a1_1 a1_2 a1_3 a1_4 a1_5 a1_6 a1_7 a1_8 a1_9 a1_10 a1_11 a1_12 a1_13).bind fun bt127 => ((impl_TaskPut.f k t124 bt127.1 bt127.2.1 bt127.2.2.1 bt127.2.2.2.1 bt127.2.2.2.2.1 bt127.2.2.2.2.2.1 bt127.2.2.2.2.2.2.1 bt127.2.2.2.2.2.2.2.1 bt127.2.2.2.2.2.2.2.2.1 bt127.2.2.2.2.2.2.2.2.2.1 bt127.2.2.2.2.2.2.2.2.2.2.1 bt127.2.2.2.2.2.2.2.2.2.2.2.1 bt127.2.2.2.2.2.2.2.2.2.2.2.2.1 bt127.2.2.2.2.2.2.2.2.2.2.2.2.2).bind fun bt141 => ((laws_eqTaskS.f k bt141.1 bt120.1).bind fun t145 => (if t145 = true then (laws_FnExactTaskPut.j0 k l0 bt120.1 bt120.2 t124 bt141.1 bt141.2 (bt141.2 != bt120.2) a1_0 a1_1 a1_2 a1_3 a1_4 a1_5 a1_6 a1_7 a1_8 a1_9 a1_10 a1_11 a1_12 a1_13) else (laws_FnExactTaskPut.j0 k l0 bt120.1 bt120.2 t124 bt141.1 bt141.2 true a1_0 a1_1 a1_2 a1_3 a1_4 a1_5 a1_6 a1_7 a1_8 a1_9 a1_10 a1_11 a1_12 a1_13)))))))))) = some r := H
  have A3 := Aside0.mk A30
  clear A30
  by_cases c4 : t102 < 0
  · rw [if_pos c4] at H
    have c4b0 : decide (t102 < 0) = true := decide_eq_true c4
    clear c4
    obtain rfl := Option.some.inj H
    go_enter Try.func3, Try.ntmps3
    go_wp2_with (first | ((with_reducible refine gate_dst (N := 3) rfl ?_); refine box_event ?hg (N := 3) ?hd (cs := tk14 a1_0 a1_1 a1_2 a1_3 a1_4 a1_5 a1_6 a1_7 a1_8 a1_9 a1_10 a1_11 a1_12 a1_13) (t := 24) ?hr ?_; (case hd => rfl); (case hg => rfl); (case hr => first | (go_simp; done) | (go_simp; rfl)); intro gb101 hg w5 hbox hb; have n0_ := aM (below_step (bq HB) hb); have n1_ := aM (hbox); have n2_ := aM ((by rw [hg]; exact (below_size (bq HB)) : w.heap.size ≤ gb101)); have n3_ := n2_; clear HB; have HB := n0_; have BK101 := n1_; have GW101 := n2_; have GE101 := n3_; clear n0_ n1_ n2_ n3_; clear hb hbox hg) | ((with_reducible refine gate_callee (f := 5) rfl ?_); refine gL (some 18) Try.func5 #[.slice A0 l0.length c0, .int .i64 1048576] ?_; (with_reducible refine (laws_szTaskS.calls _ _ l0 1048576 t102 _ ?side1 ?side2 A3.out).mono ?_); (case side1 => repeat (first | exact (Kd.C_below HR0.out HB.out) | (with_reducible refine Kd.C_alloc ?_ _) | (with_reducible refine Kd.C_drewN ?_ _) | (with_reducible refine Kd.C_drew ?_))); (case side2 => exact HC0.out); rintro e w' ⟨rfl, ⟨nd, rfl⟩⟩; refine ⟨_, rfl, ?_⟩))
    all_goals go_ret
    all_goals exact ⟨by first | rfl | (simp <;> rfl) | (simp [*] <;> rfl), bq HB⟩
  rw [if_neg c4] at H
  have c4b0 : decide (t102 < 0) = false := decide_eq_false c4
  clear c4
  replace H := Option.bind_eq_some_iff.mp H
  obtain ⟨t103, A60, H⟩ := H
  replace H : ((laws_toTask.f a1_0 a1_1 a1_2 a1_3 a1_4 a1_5 a1_6 a1_7 a1_8 a1_9 a1_10 a1_11 a1_12 a1_13).bind fun bt106 => ((spec_TaskPut.f k t103 bt106.1 bt106.2.1 bt106.2.2.1 bt106.2.2.2.1 bt106.2.2.2.2.1 bt106.2.2.2.2.2.1 bt106.2.2.2.2.2.2.1 bt106.2.2.2.2.2.2.2.1 bt106.2.2.2.2.2.2.2.2.1 bt106.2.2.2.2.2.2.2.2.2.1 bt106.2.2.2.2.2.2.2.2.2.2.1 bt106.2.2.2.2.2.2.2.2.2.2.2.1 bt106.2.2.2.2.2.2.2.2.2.2.2.2.1 bt106.2.2.2.2.2.2.2.2.2.2.2.2.2).bind fun bt120 => ((laws_toTaskS.f k l0).bind fun t124 => ((laws_toTask.f a1_0 a1_1 a1_2 a1_3 a1_4 a1_5 a1_6 a1_7 a1_8 a1_9 a1_10 a1_11 a1_12 a1_13).bind fun bt127 => ((impl_TaskPut.f k t124 bt127.1 bt127.2.1 bt127.2.2.1 bt127.2.2.2.1 bt127.2.2.2.2.1 bt127.2.2.2.2.2.1 bt127.2.2.2.2.2.2.1 bt127.2.2.2.2.2.2.2.1 bt127.2.2.2.2.2.2.2.2.1 bt127.2.2.2.2.2.2.2.2.2.1 bt127.2.2.2.2.2.2.2.2.2.2.1 bt127.2.2.2.2.2.2.2.2.2.2.2.1 bt127.2.2.2.2.2.2.2.2.2.2.2.2.1 bt127.2.2.2.2.2.2.2.2.2.2.2.2.2).bind fun bt141 => ((laws_eqTaskS.f k bt141.1 bt120.1).bind fun t145 => (if t145 = true then (laws_FnExactTaskPut.j0 k l0 bt120.1 bt120.2 t124 bt141.1 bt141.2 (bt141.2 != bt120.2) a1_0 a1_1 a1_2 a1_3 a1_4 a1_5 a1_6 a1_7 a1_8 a1_9 a1_10 a1_11 a1_12 a1_13) else (laws_FnExactTaskPut.j0 k l0 bt120.1 bt120.2 t124 bt141.1 bt141.2 true a1_0 a1_1 a1_2 a1_3 a1_4 a1_5 a1_6 a1_7 a1_8 a1_9 a1_10 a1_11 a1_12 a1_13)))))))) = some r := H
  have A6 := Aside0.mk A60
  clear A60
  replace H := Option.bind_eq_some_iff.mp H
  obtain ⟨⟨t106, t107, t108, t109, t110, t111, t112, t113, t114, t115, t116, t117, t118, t119⟩, A70, H⟩ := H
  replace H : ((spec_TaskPut.f k t103 t106 t107 t108 t109 t110 t111 t112 t113 t114 t115 t116 t117 t118 t119).bind fun bt120 => ((laws_toTaskS.f k l0).bind fun t124 => ((laws_toTask.f a1_0 a1_1 a1_2 a1_3 a1_4 a1_5 a1_6 a1_7 a1_8 a1_9 a1_10 a1_11 a1_12 a1_13).bind fun bt127 => ((impl_TaskPut.f k t124 bt127.1 bt127.2.1 bt127.2.2.1 bt127.2.2.2.1 bt127.2.2.2.2.1 bt127.2.2.2.2.2.1 bt127.2.2.2.2.2.2.1 bt127.2.2.2.2.2.2.2.1 bt127.2.2.2.2.2.2.2.2.1 bt127.2.2.2.2.2.2.2.2.2.1 bt127.2.2.2.2.2.2.2.2.2.2.1 bt127.2.2.2.2.2.2.2.2.2.2.2.1 bt127.2.2.2.2.2.2.2.2.2.2.2.2.1 bt127.2.2.2.2.2.2.2.2.2.2.2.2.2).bind fun bt141 => ((laws_eqTaskS.f k bt141.1 bt120.1).bind fun t145 => (if t145 = true then (laws_FnExactTaskPut.j0 k l0 bt120.1 bt120.2 t124 bt141.1 bt141.2 (bt141.2 != bt120.2) a1_0 a1_1 a1_2 a1_3 a1_4 a1_5 a1_6 a1_7 a1_8 a1_9 a1_10 a1_11 a1_12 a1_13) else (laws_FnExactTaskPut.j0 k l0 bt120.1 bt120.2 t124 bt141.1 bt141.2 true a1_0 a1_1 a1_2 a1_3 a1_4 a1_5 a1_6 a1_7 a1_8 a1_9 a1_10 a1_11 a1_12 a1_13))))))) = some r := H
  have A7 := Aside0.mk A70
  clear A70
  replace H := Option.bind_eq_some_iff.mp H
  obtain ⟨⟨t120, t123⟩, A80, H⟩ := H
  replace H : ((laws_toTaskS.f k l0).bind fun t124 => ((laws_toTask.f a1_0 a1_1 a1_2 a1_3 a1_4 a1_5 a1_6 a1_7 a1_8 a1_9 a1_10 a1_11 a1_12 a1_13).bind fun bt127 => ((impl_TaskPut.f k t124 bt127.1 bt127.2.1 bt127.2.2.1 bt127.2.2.2.1 bt127.2.2.2.2.1 bt127.2.2.2.2.2.1 bt127.2.2.2.2.2.2.1 bt127.2.2.2.2.2.2.2.1 bt127.2.2.2.2.2.2.2.2.1 bt127.2.2.2.2.2.2.2.2.2.1 bt127.2.2.2.2.2.2.2.2.2.2.1 bt127.2.2.2.2.2.2.2.2.2.2.2.1 bt127.2.2.2.2.2.2.2.2.2.2.2.2.1 bt127.2.2.2.2.2.2.2.2.2.2.2.2.2).bind fun bt141 => ((laws_eqTaskS.f k bt141.1 t120).bind fun t145 => (if t145 = true then (laws_FnExactTaskPut.j0 k l0 t120 t123 t124 bt141.1 bt141.2 (bt141.2 != t123) a1_0 a1_1 a1_2 a1_3 a1_4 a1_5 a1_6 a1_7 a1_8 a1_9 a1_10 a1_11 a1_12 a1_13) else (laws_FnExactTaskPut.j0 k l0 t120 t123 t124 bt141.1 bt141.2 true a1_0 a1_1 a1_2 a1_3 a1_4 a1_5 a1_6 a1_7 a1_8 a1_9 a1_10 a1_11 a1_12 a1_13)))))) = some r := H
  have A8 := Aside0.mk A80
  clear A80
  replace H := Option.bind_eq_some_iff.mp H
  obtain ⟨t124, A90, H⟩ := H
  replace H : ((laws_toTask.f a1_0 a1_1 a1_2 a1_3 a1_4 a1_5 a1_6 a1_7 a1_8 a1_9 a1_10 a1_11 a1_12 a1_13).bind fun bt127 => ((impl_TaskPut.f k t124 bt127.1 bt127.2.1 bt127.2.2.1 bt127.2.2.2.1 bt127.2.2.2.2.1 bt127.2.2.2.2.2.1 bt127.2.2.2.2.2.2.1 bt127.2.2.2.2.2.2.2.1 bt127.2.2.2.2.2.2.2.2.1 bt127.2.2.2.2.2.2.2.2.2.1 bt127.2.2.2.2.2.2.2.2.2.2.1 bt127.2.2.2.2.2.2.2.2.2.2.2.1 bt127.2.2.2.2.2.2.2.2.2.2.2.2.1 bt127.2.2.2.2.2.2.2.2.2.2.2.2.2).bind fun bt141 => ((laws_eqTaskS.f k bt141.1 t120).bind fun t145 => (if t145 = true then (laws_FnExactTaskPut.j0 k l0 t120 t123 t124 bt141.1 bt141.2 (bt141.2 != t123) a1_0 a1_1 a1_2 a1_3 a1_4 a1_5 a1_6 a1_7 a1_8 a1_9 a1_10 a1_11 a1_12 a1_13) else (laws_FnExactTaskPut.j0 k l0 t120 t123 t124 bt141.1 bt141.2 true a1_0 a1_1 a1_2 a1_3 a1_4 a1_5 a1_6 a1_7 a1_8 a1_9 a1_10 a1_11 a1_12 a1_13))))) = some r := H
  have A9 := Aside0.mk A90
  clear A90
  replace H := Option.bind_eq_some_iff.mp H
  obtain ⟨⟨t127, t128, t129, t130, t131, t132, t133, t134, t135, t136, t137, t138, t139, t140⟩, A100, H⟩ := H
  replace H : ((impl_TaskPut.f k t124 t127 t128 t129 t130 t131 t132 t133 t134 t135 t136 t137 t138 t139 t140).bind fun bt141 => ((laws_eqTaskS.f k bt141.1 t120).bind fun t145 => (if t145 = true then (laws_FnExactTaskPut.j0 k l0 t120 t123 t124 bt141.1 bt141.2 (bt141.2 != t123) a1_0 a1_1 a1_2 a1_3 a1_4 a1_5 a1_6 a1_7 a1_8 a1_9 a1_10 a1_11 a1_12 a1_13) else (laws_FnExactTaskPut.j0 k l0 t120 t123 t124 bt141.1 bt141.2 true a1_0 a1_1 a1_2 a1_3 a1_4 a1_5 a1_6 a1_7 a1_8 a1_9 a1_10 a1_11 a1_12 a1_13)))) = some r := H
  have A10 := Aside0.mk A100
  clear A100
  replace H := Option.bind_eq_some_iff.mp H
  obtain ⟨⟨t141, t144⟩, A110, H⟩ := H
  replace H : ((laws_eqTaskS.f k t141 t120).bind fun t145 => (if t145 = true then (laws_FnExactTaskPut.j0 k l0 t120 t123 t124 t141 t144 (t144 != t123) a1_0 a1_1 a1_2 a1_3 a1_4 a1_5 a1_6 a1_7 a1_8 a1_9 a1_10 a1_11 a1_12 a1_13) else (laws_FnExactTaskPut.j0 k l0 t120 t123 t124 t141 t144 true a1_0 a1_1 a1_2 a1_3 a1_4 a1_5 a1_6 a1_7 a1_8 a1_9 a1_10 a1_11 a1_12 a1_13))) = some r := H
  have A11 := Aside0.mk A110
  clear A110
  have HC12 := Aside0.mk H
  clear H
  go_enter Try.func3, Try.ntmps3
  try go_wp2_with (first | ((with_reducible refine gate_dst (N := 3) rfl ?_); refine box_event ?hg (N := 3) ?hd (cs := tk14 a1_0 a1_1 a1_2 a1_3 a1_4 a1_5 a1_6 a1_7 a1_8 a1_9 a1_10 a1_11 a1_12 a1_13) (t := 24) ?hr ?_; (case hd => rfl); (case hg => rfl); (case hr => first | (go_simp; done) | (go_simp; rfl)); intro gb101 hg w13 hbox hb; have n0_ := aM (below_step (bq HB) hb); have n1_ := aM (hbox); have n2_ := aM ((by rw [hg]; exact (below_size (bq HB)) : w.heap.size ≤ gb101)); have n3_ := n2_; clear HB; have HB := n0_; have BK101 := n1_; have GW101 := n2_; have GE101 := n3_; clear n0_ n1_ n2_ n3_; clear hb hbox hg) | ((with_reducible refine gate_callee (f := 5) rfl ?_); refine gL (some 18) Try.func5 #[.slice A0 l0.length c0, .int .i64 1048576] ?_; (with_reducible refine (laws_szTaskS.calls _ _ l0 1048576 t102 _ ?side1 ?side2 A3.out).mono ?_); (case side1 => repeat (first | exact (Kd.C_below HR0.out HB.out) | (with_reducible refine Kd.C_alloc ?_ _) | (with_reducible refine Kd.C_drewN ?_ _) | (with_reducible refine Kd.C_drew ?_))); (case side2 => exact HC0.out); rintro e w' ⟨rfl, ⟨nd, rfl⟩⟩; refine ⟨_, rfl, ?_⟩))
  (try (rw [drewN_self w13]; generalize hq_ : World.drewN w13 _ = w13; have n0_ : Aside0 (w13.heap[gb101]? = some (.cells #[.int .i64 a1_0, .int .i64 a1_1, .int .i64 a1_2, .int .i64 a1_3, .bool a1_4, .int .i64 a1_5, .int .i64 a1_6, .int .i64 a1_7, .int .i64 a1_8, .int .i64 a1_9, .int .i64 a1_10, .int .i64 a1_11, .int .i64 a1_12, .int .i64 a1_13] 24 (0, 0))) := ⟨by rw [← hq_]; exact (kq BK101)⟩; have n1_ : Aside0 (Below w.heap.size w w13) := ⟨by rw [← hq_]; exact (bq HB)⟩; clear BK101 HB hq_; have BK101 := n0_; have HB := n1_; clear n0_ n1_))
  have n0_ := aM (blk_drew BK101.out)
  have n1_ := aM (below_drew1 HB.out)
  clear BK101 HB
  have BK101 := n0_
  have HB := n1_
  clear n0_ n1_
  refine start_ (n := 10) (S := fun w' => cb14 w' gb101 (.int .i64 a1_0) (.int .i64 a1_1) (.int .i64 a1_2) (.int .i64 a1_3) (.bool a1_4) (.int .i64 a1_5) (.int .i64 a1_6) (.int .i64 a1_7) (.int .i64 a1_8) (.int .i64 a1_9) (.int .i64 a1_10) (.int .i64 a1_11) (.int .i64 a1_12) (.int .i64 a1_13)) (ds := []) #[nn,nn,nn,nn,nn,nn,nn,nn,nn,nn] (by kernel_rfl) rfl rfl ⟨(blk_cell BK101.out 0).trans rfl, (blk_cell BK101.out 1).trans rfl, (blk_cell BK101.out 2).trans rfl, (blk_cell BK101.out 3).trans rfl, (blk_cell BK101.out 4).trans rfl, (blk_cell BK101.out 5).trans rfl, (blk_cell BK101.out 6).trans rfl, (blk_cell BK101.out 7).trans rfl, (blk_cell BK101.out 8).trans rfl, (blk_cell BK101.out 9).trans rfl, (blk_cell BK101.out 10).trans rfl, (blk_cell BK101.out 11).trans rfl, (blk_cell BK101.out 12).trans rfl, (blk_cell BK101.out 13).trans rfl⟩ (fun hHeld => ?_); refine with_tabW laws_FnExactTaskPut.tab5 laws_FnExactTaskPut.bits5 (fun HT_ HW_ => ?_)
  generalize w13.drew = w14 at BK101 HB hHeld ⊢
  refine pQ (i := 0) (N := some 22) #[yy,nn,nn,nn,nn,nn,nn,nn,nn,nn] (any_of HT_.out (by kernel_rfl)) ?_
  refine tQ (i := 2) (N := some 24) #[yy,nn,yy,nn,nn,nn,nn,nn,nn,nn] (take_ofW HT_.out HW_.out (by kernel_rfl)) hHeld ?_
  refine one_ (i := 1) (N := some 23) #[yy,yy,yy,nn,nn,nn,nn,nn,nn,nn] rfl rfl (one_of HT_.out (by kernel_rfl)) (by decide) (fun K hK => ?_)
  refine goes_ Try.func7 (by kernel_rfl) rfl #[.slice A0 l0.length c0] (by rfl) rfl rfl (by (try simp only [List.map_toArray, List.map_cons, List.map_nil]); first | done | rfl | (simp only [List.length_drop, List.length_take]; rfl)) ?_
  with_reducible refine (laws_toTaskS.calls k _ _ l0 t103 _ ?side1 ?side2 A6.out).mono ?_
  (case side1 => repeat (first | exact (Kd.C_below HR0.out HB.out) | (with_reducible refine Kd.C_alloc ?_ _) | (with_reducible refine Kd.C_drewN ?_ _) | (with_reducible refine Kd.C_drew ?_)))
  (case side2 => exact HC0.out)
  rintro e w15 ⟨v104, rfl, ho0, hb⟩
  refine ⟨_, rfl, ?_⟩
  have n0_ := aM (Kd.R_lower ho0 (below_size (bq HB)))
  have n1_ := aM (blk_below (kq BK101) hb)
  have n2_ := aM (below_step (bq HB) hb)
  clear BK101 HB
  have HO105 := n0_
  have BK101 := n1_
  have HB := n2_
  clear n0_ n1_ n2_
  (try clear hb)
  (try clear hb2)
  (try clear hk)
  (try clear hi)
  (try clear ho0)
  refine hK.out _ _ ⟨(blk_cell BK101.out 0).trans rfl, (blk_cell BK101.out 1).trans rfl, (blk_cell BK101.out 2).trans rfl, (blk_cell BK101.out 3).trans rfl, (blk_cell BK101.out 4).trans rfl, (blk_cell BK101.out 5).trans rfl, (blk_cell BK101.out 6).trans rfl, (blk_cell BK101.out 7).trans rfl, (blk_cell BK101.out 8).trans rfl, (blk_cell BK101.out 9).trans rfl, (blk_cell BK101.out 10).trans rfl, (blk_cell BK101.out 11).trans rfl, (blk_cell BK101.out 12).trans rfl, (blk_cell BK101.out 13).trans rfl⟩ (fun hHeld => ?_)
  clear hK K
  refine nQ (N := some 23) ?_
  refine one_ (i := 3) (N := some 25) #[yy,yy,yy,yy,nn,nn,nn,nn,nn,nn] rfl rfl (one_of HT_.out (by kernel_rfl)) (by decide) (fun K hK => ?_)
  refine goes_ Try.func8 (by kernel_rfl) rfl #[.agg #[.int .i64 a1_0, .int .i64 a1_1, .int .i64 a1_2, .int .i64 a1_3, .bool a1_4, .int .i64 a1_5, .int .i64 a1_6, .int .i64 a1_7, .int .i64 a1_8, .int .i64 a1_9, .int .i64 a1_10, .int .i64 a1_11, .int .i64 a1_12, .int .i64 a1_13]] (by rfl) rfl rfl (by (try simp only [List.map_toArray, List.map_cons, List.map_nil]); first | done | rfl | (simp only [List.length_drop, List.length_take]; rfl)) ?_
  with_reducible refine (laws_toTask.calls a1_0 a1_1 a1_2 a1_3 a1_4 a1_5 a1_6 a1_7 a1_8 a1_9 a1_10 a1_11 a1_12 a1_13 t106 t107 t108 t109 t110 t111 t112 t113 t114 t115 t116 t117 t118 t119 _ A7.out).mono ?_
  rintro e w16 ⟨rfl, hb⟩
  refine ⟨_, rfl, ?_⟩
  have n0_ := aM (Kd.R_below (rq HO105) hb)
  have n1_ := aM (blk_below (kq BK101) hb)
  have n2_ := aM (below_step (bq HB) hb)
  clear HO105 BK101 HB
  have HO105 := n0_
  have BK101 := n1_
  have HB := n2_
  clear n0_ n1_ n2_
  (try clear hb)
  (try clear hb2)
  (try clear hk)
  (try clear hi)
  obtain ⟨Ao17, co17, eo17⟩ := Kd.R_slice HO105.out
  (first | subst eo17 | (injection eo17 with f1_ f2_ f3_; have f4_ := f1_.symm; have f5_ := f3_.symm; clear f1_ f2_ f3_; subst f4_; subst f5_))
  refine hK.out _ _ ⟨(blk_cell BK101.out 0).trans rfl, (blk_cell BK101.out 1).trans rfl, (blk_cell BK101.out 2).trans rfl, (blk_cell BK101.out 3).trans rfl, (blk_cell BK101.out 4).trans rfl, (blk_cell BK101.out 5).trans rfl, (blk_cell BK101.out 6).trans rfl, (blk_cell BK101.out 7).trans rfl, (blk_cell BK101.out 8).trans rfl, (blk_cell BK101.out 9).trans rfl, (blk_cell BK101.out 10).trans rfl, (blk_cell BK101.out 11).trans rfl, (blk_cell BK101.out 12).trans rfl, (blk_cell BK101.out 13).trans rfl⟩ (fun hHeld => ?_)
  clear hK K
  refine nQ (N := some 25) ?_
  refine one_ (i := 4) (N := some 26) #[yy,yy,yy,yy,yy,nn,nn,nn,nn,nn] rfl rfl (one_of HT_.out (by kernel_rfl)) (by decide) (fun K hK => ?_)
  refine goes_ Try.func6 (by kernel_rfl) rfl #[.slice Ao17 t103.length co17, .agg #[.int .i64 t106, .int .i64 t107, .int .i64 t108, .int .i64 t109, .bool t110, .int .i64 t111, .int .i64 t112, .int .i64 t113, .int .i64 t114, .int .i64 t115, .int .i64 t116, .int .i64 t117, .int .i64 t118, .int .i64 t119]] (by rfl) rfl rfl (by (try simp only [List.map_toArray, List.map_cons, List.map_nil]); first | done | rfl | (simp only [List.length_drop, List.length_take]; rfl)) ?_
  with_reducible refine (spec_TaskPut.calls k _ _ t103 t106 t107 t108 t109 t110 t111 t112 t113 t114 t115 t116 t117 t118 t119 t120 t123 _ ?side1 ?side2 A8.out).mono ?_
  (case side1 => repeat (first | exact (Kd.R_reads' HO105.out).2.2 | (with_reducible refine Kd.C_alloc ?_ _) | (with_reducible refine Kd.C_drewN ?_ _) | (with_reducible refine Kd.C_drew ?_)))
  (case side2 => exact (Kd.R_reads' HO105.out).2.1)
  rintro e w18 ⟨v121, rfl, ho0, hb⟩
  refine ⟨_, rfl, ?_⟩
  have n0_ := aM (Kd.R_elder' (rq HO105) (Kd.R_base ho0) hb)
  have n1_ := aM (Kd.R_lower (Kd.R_new' ho0 (Kd.R_lt (rq HO105))) (below_size (bq HB)))
  have n2_ := aM (blk_below (kq BK101) hb)
  have n3_ := aM (below_step (bq HB) hb)
  clear HO105 BK101 HB
  have HO105 := n0_
  have HO122 := n1_
  have BK101 := n2_
  have HB := n3_
  clear n0_ n1_ n2_ n3_
  (try clear hb)
  (try clear hb2)
  (try clear hk)
  (try clear hi)
  (try clear ho0)
  refine hK.out _ _ ⟨(blk_cell BK101.out 0).trans rfl, (blk_cell BK101.out 1).trans rfl, (blk_cell BK101.out 2).trans rfl, (blk_cell BK101.out 3).trans rfl, (blk_cell BK101.out 4).trans rfl, (blk_cell BK101.out 5).trans rfl, (blk_cell BK101.out 6).trans rfl, (blk_cell BK101.out 7).trans rfl, (blk_cell BK101.out 8).trans rfl, (blk_cell BK101.out 9).trans rfl, (blk_cell BK101.out 10).trans rfl, (blk_cell BK101.out 11).trans rfl, (blk_cell BK101.out 12).trans rfl, (blk_cell BK101.out 13).trans rfl⟩ (fun hHeld => ?_)
  clear hK K
  refine nQ (N := some 26) ?_
  refine pQ (i := 5) (N := some 21) #[yy,yy,yy,yy,yy,yy,nn,nn,nn,nn] (any_of HT_.out (by kernel_rfl)) ?_
  refine pQ (i := 6) (N := some 27) #[yy,yy,yy,yy,yy,yy,yy,nn,nn,nn] (any_of HT_.out (by kernel_rfl)) ?_
  refine pQ (i := 7) (N := some 28) #[yy,yy,yy,yy,yy,yy,yy,yy,nn,nn] (any_of HT_.out (by kernel_rfl)) ?_
  refine pQ (i := 8) (N := some 6) #[yy,yy,yy,yy,yy,yy,yy,yy,yy,nn] (any_of HT_.out (by kernel_rfl)) ?_
  refine pQ (i := 9) (N := some 7) #[yy,yy,yy,yy,yy,yy,yy,yy,yy,yy] (any_of HT_.out (by kernel_rfl)) ?_
  refine done_ (done_of HT_.out (by kernel_rfl)) ?_
  go_upto_region 8 with (first | ((with_reducible refine gate_callee (f := 7) rfl ?_); refine gL (some 30) Try.func7 #[.slice A0 l0.length c0] ?_; (with_reducible refine (laws_toTaskS.calls k _ _ l0 t124 _ ?side1 ?side2 A9.out).mono ?_); (case side1 => repeat (first | exact (Kd.C_below HR0.out HB.out) | (with_reducible refine Kd.C_alloc ?_ _) | (with_reducible refine Kd.C_drewN ?_ _) | (with_reducible refine Kd.C_drew ?_))); (case side2 => exact HC0.out); rintro e w19 ⟨v125, rfl, ho0, hb⟩; refine ⟨_, rfl, ?_⟩; have n0_ := aM (Kd.R_elder' (rq HO105) (Kd.R_base ho0) hb); have n1_ := aM (Kd.R_elder' (rq HO122) (Kd.R_base ho0) hb); have n2_ := aM (Kd.R_lower (Kd.R_new' (Kd.R_new' ho0 (Kd.R_lt (rq HO105))) (Kd.R_lt (rq HO122))) (below_size (bq HB))); have n3_ := aM (blk_below (kq BK101) hb); have n4_ := aM (below_step (bq HB) hb); clear HO105 HO122 BK101 HB; have HO105 := n0_; have HO122 := n1_; have HO126 := n2_; have BK101 := n3_; have HB := n4_; clear n0_ n1_ n2_ n3_ n4_; (try clear hb); (try clear hb2); (try clear hk); (try clear hi); (try clear ho0); obtain ⟨_,_,_,_,_,_,_,_,_,_,_,_,_,_⟩ := cz14 BK101.out; have hfz20_0 := blk_frozen BK101.out) | ((with_reducible refine gate_callee (f := 8) rfl ?_); refine gL (some 34) Try.func8 #[.agg #[.int .i64 a1_0, .int .i64 a1_1, .int .i64 a1_2, .int .i64 a1_3, .bool a1_4, .int .i64 a1_5, .int .i64 a1_6, .int .i64 a1_7, .int .i64 a1_8, .int .i64 a1_9, .int .i64 a1_10, .int .i64 a1_11, .int .i64 a1_12, .int .i64 a1_13]] ?_; (with_reducible refine (laws_toTask.calls a1_0 a1_1 a1_2 a1_3 a1_4 a1_5 a1_6 a1_7 a1_8 a1_9 a1_10 a1_11 a1_12 a1_13 t127 t128 t129 t130 t131 t132 t133 t134 t135 t136 t137 t138 t139 t140 _ A10.out).mono ?_); rintro e w21 ⟨rfl, hb⟩; refine ⟨_, rfl, ?_⟩; have n0_ := aM (Kd.R_below (rq HO105) hb); have n1_ := aM (Kd.R_below (rq HO122) hb); have n2_ := aM (Kd.R_below (rq HO126) hb); have n3_ := aM (blk_below (kq BK101) hb); have n4_ := aM (below_step (bq HB) hb); clear HO105 HO122 HO126 BK101 HB; have HO105 := n0_; have HO122 := n1_; have HO126 := n2_; have BK101 := n3_; have HB := n4_; clear n0_ n1_ n2_ n3_ n4_; (try clear hb); (try clear hb2); (try clear hk); (try clear hi); obtain ⟨Ao22, co22, eo22⟩ := Kd.R_slice HO126.out; subst eo22) | ((with_reducible refine gate_callee (f := 9) rfl ?_); refine gL (some 35) Try.func9 #[.slice Ao22 t124.length co22, .agg #[.int .i64 t127, .int .i64 t128, .int .i64 t129, .int .i64 t130, .bool t131, .int .i64 t132, .int .i64 t133, .int .i64 t134, .int .i64 t135, .int .i64 t136, .int .i64 t137, .int .i64 t138, .int .i64 t139, .int .i64 t140]] ?_; (with_reducible refine (impl_TaskPut.calls k _ _ t124 t127 t128 t129 t130 t131 t132 t133 t134 t135 t136 t137 t138 t139 t140 t141 t144 _ ?side1 ?side2 A11.out).mono ?_); (case side1 => repeat (first | exact (Kd.R_reads' HO126.out).2.2 | (with_reducible refine Kd.C_alloc ?_ _) | (with_reducible refine Kd.C_drewN ?_ _) | (with_reducible refine Kd.C_drew ?_))); (case side2 => exact (Kd.R_reads' HO126.out).2.1); rintro e w23 ⟨v142, rfl, ho0, hb⟩; refine ⟨_, rfl, ?_⟩; have n0_ := aM (Kd.R_elder' (rq HO105) (Kd.R_base ho0) hb); have n1_ := aM (Kd.R_elder' (rq HO122) (Kd.R_base ho0) hb); have n2_ := aM (Kd.R_elder' (rq HO126) (Kd.R_base ho0) hb); have n3_ := aM (Kd.R_lower (Kd.R_new' (Kd.R_new' (Kd.R_new' ho0 (Kd.R_lt (rq HO105))) (Kd.R_lt (rq HO122))) (Kd.R_lt (rq HO126))) (below_size (bq HB))); have n4_ := aM (blk_below (kq BK101) hb); have n5_ := aM (below_step (bq HB) hb); clear HO105 HO122 HO126 BK101 HB; have HO105 := n0_; have HO122 := n1_; have HO126 := n2_; have HO143 := n3_; have BK101 := n4_; have HB := n5_; clear n0_ n1_ n2_ n3_ n4_ n5_; (try clear hb); (try clear hb2); (try clear hk); (try clear hi); (try clear ho0)))
  (try simp only [Act.put, tA, tB, tC])
  go_cut [46] (fun v46 wc => ∃ (kq : Nat) (x46_11 : Bool), v46 = .bool x46_11 ∧ Aside0 (laws_FnExactTaskPut.j0 kq l0 t120 t123 t124 t141 t144 x46_11 a1_0 a1_1 a1_2 a1_3 a1_4 a1_5 a1_6 a1_7 a1_8 a1_9 a1_10 a1_11 a1_12 a1_13 = some r) ∧ Aside0 (kq ≤ k) ∧ Aside0 (Kd.R k30 30 wc w.heap.size (fun k_ => some k_ ≠ ((.slice Ao22 t124.length co22) : Value).ownBlock ∧ some k_ ≠ (v142 : Value).ownBlock) v121 t120) ∧ Aside0 (Kd.R k30 30 wc w.heap.size (fun k_ => some k_ ≠ (v121 : Value).ownBlock ∧ some k_ ≠ (v142 : Value).ownBlock) (.slice Ao22 t124.length co22) t124) ∧ Aside0 (Kd.R k30 30 wc w.heap.size (fun k_ => some k_ ≠ (v121 : Value).ownBlock ∧ some k_ ≠ ((.slice Ao22 t124.length co22) : Value).ownBlock) v142 t141) ∧ Aside0 (wc.heap[gb101]? = some (.cells #[.int .i64 a1_0, .int .i64 a1_1, .int .i64 a1_2, .int .i64 a1_3, .bool a1_4, .int .i64 a1_5, .int .i64 a1_6, .int .i64 a1_7, .int .i64 a1_8, .int .i64 a1_9, .int .i64 a1_10, .int .i64 a1_11, .int .i64 a1_12, .int .i64 a1_13] 24 (0, 0))) ∧ Aside0 (Below w.heap.size w wc))
  case first =>
    have H := HC12.out
    clear HC12
    replace H := Option.bind_eq_some_iff.mp H
    obtain ⟨t145, A240, H⟩ := H
    replace H : (if t145 = true then (laws_FnExactTaskPut.j0 k l0 t120 t123 t124 t141 t144 (t144 != t123) a1_0 a1_1 a1_2 a1_3 a1_4 a1_5 a1_6 a1_7 a1_8 a1_9 a1_10 a1_11 a1_12 a1_13) else (laws_FnExactTaskPut.j0 k l0 t120 t123 t124 t141 t144 true a1_0 a1_1 a1_2 a1_3 a1_4 a1_5 a1_6 a1_7 a1_8 a1_9 a1_10 a1_11 a1_12 a1_13)) = some r := H
    have A24 := Aside0.mk A240
    clear A240
    by_cases c25 : t145 = true
    · subst c25
      have H1 : (laws_FnExactTaskPut.j0 k l0 t120 t123 t124 t141 t144 (t144 != t123) a1_0 a1_1 a1_2 a1_3 a1_4 a1_5 a1_6 a1_7 a1_8 a1_9 a1_10 a1_11 a1_12 a1_13) = some r := by rw [if_pos rfl] at H; exact H
      clear H
      have H := H1
      clear H1
      have H' := Aside0.mk H
      clear H
      obtain ⟨Ao26, co26, eo26⟩ := Kd.R_slice HO143.out
      subst eo26
      obtain ⟨Ao27, co27, eo27⟩ := Kd.R_slice HO122.out
      subst eo27
      go_wp2_with (first | ((with_reducible refine gate_callee (f := 10) rfl ?_); refine gL (some 40) Try.func10 #[.slice Ao26 t141.length co26, .slice Ao27 t120.length co27] ?_; (with_reducible refine (laws_eqTaskS.calls k _ _ t141 _ _ t120 true _ ?side1 ?side2 ?side3 ?side4 A24.out).mono ?_); (case side1 => repeat (first | exact (Kd.R_reads' HO143.out).2.2 | (with_reducible refine Kd.C_alloc ?_ _) | (with_reducible refine Kd.C_drewN ?_ _) | (with_reducible refine Kd.C_drew ?_))); (case side2 => exact (Kd.R_reads' HO143.out).2.1); (case side3 => repeat (first | exact (Kd.R_reads' HO122.out).2.2 | (with_reducible refine Kd.C_alloc ?_ _) | (with_reducible refine Kd.C_drewN ?_ _) | (with_reducible refine Kd.C_drew ?_))); (case side4 => exact (Kd.R_reads' HO122.out).2.1); rintro e w28 ⟨rfl, hb⟩; refine ⟨_, rfl, ?_⟩; have n0_ := aM (Kd.R_below (rq HO105) hb); have n1_ := aM (Kd.R_below (rq HO122) hb); have n2_ := aM (Kd.R_below (rq HO126) hb); have n3_ := aM (Kd.R_below (rq HO143) hb); have n4_ := aM (blk_below (kq BK101) hb); have n5_ := aM (below_step (bq HB) hb); clear HO105 HO122 HO126 HO143 BK101 HB; have HO105 := n0_; have HO122 := n1_; have HO126 := n2_; have HO143 := n3_; have BK101 := n4_; have HB := n5_; clear n0_ n1_ n2_ n3_ n4_ n5_; (try clear hb); (try clear hb2); (try clear hk); (try clear hi)))
      go_meet
      case rel => exact ⟨_, ((t144 != t123)), (by first | rfl | (simp; done) | (simp [*]; done)), H', ⟨by first | omega | exact Nat.le_refl _⟩, ⟨by (with_reducible repeat (first | apply Kd.R_alloc | apply Kd.R_drewN | apply Kd.R_drew)); exact Kd.R_mono HO122.out (fun _ hk => ⟨hk.1.2, hk.2⟩)⟩, ⟨by (with_reducible repeat (first | apply Kd.R_alloc | apply Kd.R_drewN | apply Kd.R_drew)); exact Kd.R_mono HO126.out (fun _ hk => ⟨hk.1.2, hk.2⟩)⟩, ⟨by (with_reducible repeat (first | apply Kd.R_alloc | apply Kd.R_drewN | apply Kd.R_drew)); exact Kd.R_mono HO143.out (fun _ hk => ⟨hk.1.2, hk.2⟩)⟩, ⟨by (with_reducible repeat (first | apply bkD | apply bkd | apply bkA)); exact BK101.out⟩, ⟨bq HB⟩⟩
    replace c25 := Bool.eq_false_iff.mpr c25
    subst c25
    have H1 : (laws_FnExactTaskPut.j0 k l0 t120 t123 t124 t141 t144 true a1_0 a1_1 a1_2 a1_3 a1_4 a1_5 a1_6 a1_7 a1_8 a1_9 a1_10 a1_11 a1_12 a1_13) = some r := by rw [if_neg (show ¬ (false = true) by decide)] at H; exact H
    clear H
    have H := H1
    clear H1
    have H' := Aside0.mk H
    clear H
    obtain ⟨Ao29, co29, eo29⟩ := Kd.R_slice HO143.out
    subst eo29
    obtain ⟨Ao30, co30, eo30⟩ := Kd.R_slice HO122.out
    subst eo30
    go_wp2_with (first | ((with_reducible refine gate_callee (f := 10) rfl ?_); refine gL (some 40) Try.func10 #[.slice Ao29 t141.length co29, .slice Ao30 t120.length co30] ?_; (with_reducible refine (laws_eqTaskS.calls k _ _ t141 _ _ t120 false _ ?side1 ?side2 ?side3 ?side4 A24.out).mono ?_); (case side1 => repeat (first | exact (Kd.R_reads' HO143.out).2.2 | (with_reducible refine Kd.C_alloc ?_ _) | (with_reducible refine Kd.C_drewN ?_ _) | (with_reducible refine Kd.C_drew ?_))); (case side2 => exact (Kd.R_reads' HO143.out).2.1); (case side3 => repeat (first | exact (Kd.R_reads' HO122.out).2.2 | (with_reducible refine Kd.C_alloc ?_ _) | (with_reducible refine Kd.C_drewN ?_ _) | (with_reducible refine Kd.C_drew ?_))); (case side4 => exact (Kd.R_reads' HO122.out).2.1); rintro e w31 ⟨rfl, hb⟩; refine ⟨_, rfl, ?_⟩; have n0_ := aM (Kd.R_below (rq HO105) hb); have n1_ := aM (Kd.R_below (rq HO122) hb); have n2_ := aM (Kd.R_below (rq HO126) hb); have n3_ := aM (Kd.R_below (rq HO143) hb); have n4_ := aM (blk_below (kq BK101) hb); have n5_ := aM (below_step (bq HB) hb); clear HO105 HO122 HO126 HO143 BK101 HB; have HO105 := n0_; have HO122 := n1_; have HO126 := n2_; have HO143 := n3_; have BK101 := n4_; have HB := n5_; clear n0_ n1_ n2_ n3_ n4_ n5_; (try clear hb); (try clear hb2); (try clear hk); (try clear hi)))
    go_meet
    case rel => exact ⟨_, (true), (by first | rfl | (simp; done) | (simp [*]; done)), H', ⟨by first | omega | exact Nat.le_refl _⟩, ⟨by (with_reducible repeat (first | apply Kd.R_alloc | apply Kd.R_drewN | apply Kd.R_drew)); exact Kd.R_mono HO122.out (fun _ hk => ⟨hk.1.2, hk.2⟩)⟩, ⟨by (with_reducible repeat (first | apply Kd.R_alloc | apply Kd.R_drewN | apply Kd.R_drew)); exact Kd.R_mono HO126.out (fun _ hk => ⟨hk.1.2, hk.2⟩)⟩, ⟨by (with_reducible repeat (first | apply Kd.R_alloc | apply Kd.R_drewN | apply Kd.R_drew)); exact Kd.R_mono HO143.out (fun _ hk => ⟨hk.1.2, hk.2⟩)⟩, ⟨by (with_reducible repeat (first | apply bkD | apply bkd | apply bkA)); exact BK101.out⟩, ⟨bq HB⟩⟩
  case rest =>
    clear HC12
    try clear c1
    try clear c2
    try clear p2
    try clear c3
    try clear c4
    try clear c4b0
    try clear c5
    try clear c6
    try clear c7
    try clear c8
    try clear c9
    try clear c10
    try clear c25
    try clear hfz20_0
    obtain ⟨kq, x46_11, rfl, HA, HJ11, HO_6, HO_8, HO_9, BK101, HB⟩ := hcut
    cases kq with
    | zero => exact absurd HA.out (by simp [laws_FnExactTaskPut.j0])
    | succ kj11 =>
      have H := HA.out
      clear HA
      simp only [laws_FnExactTaskPut.j0] at H
      by_cases c32 : x46_11 = true
      · subst c32
        have H1 : (some false) = some r := by rw [if_pos rfl] at H; exact H
        clear H
        have H := H1
        clear H1
        exact absurd ((Option.some.inj H).trans HRT.out) Bool.false_ne_true
      replace c32 := Bool.eq_false_iff.mpr c32
      subst c32
      have H1 : ((laws_toTaskS.f kj11 l0).bind fun t146 => ((laws_eqTaskS.f kj11 t124 t146).bind fun t149 => (if t149 = true then ((laws_markTaskS.f kj11 t124 1).bind fun bt150 => (if bt150.1 < 0 then (laws_FnExactTaskPut.j1 kj11 l0 t120 t123 t141 true a1_0 a1_1 a1_2 a1_3 a1_4 a1_5 a1_6 a1_7 a1_8 a1_9 a1_10 a1_11 a1_12 a1_13) else ((laws_eqTaskS.f kj11 t141 t120).bind fun t152 => (if t152 = true then (laws_FnExactTaskPut.j1 kj11 l0 t120 t123 t141 (t144 != t123) a1_0 a1_1 a1_2 a1_3 a1_4 a1_5 a1_6 a1_7 a1_8 a1_9 a1_10 a1_11 a1_12 a1_13) else (laws_FnExactTaskPut.j1 kj11 l0 t120 t123 t141 true a1_0 a1_1 a1_2 a1_3 a1_4 a1_5 a1_6 a1_7 a1_8 a1_9 a1_10 a1_11 a1_12 a1_13))))) else (some false)))) = some r := by rw [if_neg (show ¬ (false = true) by decide)] at H; exact H
      clear H
      have H := H1
      clear H1
      replace H := Option.bind_eq_some_iff.mp H
      obtain ⟨t146, A330, H⟩ := H
      replace H : ((laws_eqTaskS.f kj11 t124 t146).bind fun t149 => (if t149 = true then ((laws_markTaskS.f kj11 t124 1).bind fun bt150 => (if bt150.1 < 0 then (laws_FnExactTaskPut.j1 kj11 l0 t120 t123 t141 true a1_0 a1_1 a1_2 a1_3 a1_4 a1_5 a1_6 a1_7 a1_8 a1_9 a1_10 a1_11 a1_12 a1_13) else ((laws_eqTaskS.f kj11 t141 t120).bind fun t152 => (if t152 = true then (laws_FnExactTaskPut.j1 kj11 l0 t120 t123 t141 (t144 != t123) a1_0 a1_1 a1_2 a1_3 a1_4 a1_5 a1_6 a1_7 a1_8 a1_9 a1_10 a1_11 a1_12 a1_13) else (laws_FnExactTaskPut.j1 kj11 l0 t120 t123 t141 true a1_0 a1_1 a1_2 a1_3 a1_4 a1_5 a1_6 a1_7 a1_8 a1_9 a1_10 a1_11 a1_12 a1_13))))) else (some false))) = some r := H
      have A33 := Aside0.mk A330
      clear A330
      replace H := Option.bind_eq_some_iff.mp H
      obtain ⟨t149, A340, H⟩ := H
      replace H : (if t149 = true then ((laws_markTaskS.f kj11 t124 1).bind fun bt150 => (if bt150.1 < 0 then (laws_FnExactTaskPut.j1 kj11 l0 t120 t123 t141 true a1_0 a1_1 a1_2 a1_3 a1_4 a1_5 a1_6 a1_7 a1_8 a1_9 a1_10 a1_11 a1_12 a1_13) else ((laws_eqTaskS.f kj11 t141 t120).bind fun t152 => (if t152 = true then (laws_FnExactTaskPut.j1 kj11 l0 t120 t123 t141 (t144 != t123) a1_0 a1_1 a1_2 a1_3 a1_4 a1_5 a1_6 a1_7 a1_8 a1_9 a1_10 a1_11 a1_12 a1_13) else (laws_FnExactTaskPut.j1 kj11 l0 t120 t123 t141 true a1_0 a1_1 a1_2 a1_3 a1_4 a1_5 a1_6 a1_7 a1_8 a1_9 a1_10 a1_11 a1_12 a1_13))))) else (some false)) = some r := H
      have A34 := Aside0.mk A340
      clear A340
      by_cases c35 : t149 = true
      · subst c35
        have H1 : ((laws_markTaskS.f kj11 t124 1).bind fun bt150 => (if bt150.1 < 0 then (laws_FnExactTaskPut.j1 kj11 l0 t120 t123 t141 true a1_0 a1_1 a1_2 a1_3 a1_4 a1_5 a1_6 a1_7 a1_8 a1_9 a1_10 a1_11 a1_12 a1_13) else ((laws_eqTaskS.f kj11 t141 t120).bind fun t152 => (if t152 = true then (laws_FnExactTaskPut.j1 kj11 l0 t120 t123 t141 (t144 != t123) a1_0 a1_1 a1_2 a1_3 a1_4 a1_5 a1_6 a1_7 a1_8 a1_9 a1_10 a1_11 a1_12 a1_13) else (laws_FnExactTaskPut.j1 kj11 l0 t120 t123 t141 true a1_0 a1_1 a1_2 a1_3 a1_4 a1_5 a1_6 a1_7 a1_8 a1_9 a1_10 a1_11 a1_12 a1_13))))) = some r := by rw [if_pos rfl] at H; exact H
        clear H
        have H := H1
        clear H1
        replace H := Option.bind_eq_some_iff.mp H
        obtain ⟨⟨t150, t151⟩, A360, H⟩ := H
        replace H : (if t150 < 0 then (laws_FnExactTaskPut.j1 kj11 l0 t120 t123 t141 true a1_0 a1_1 a1_2 a1_3 a1_4 a1_5 a1_6 a1_7 a1_8 a1_9 a1_10 a1_11 a1_12 a1_13) else ((laws_eqTaskS.f kj11 t141 t120).bind fun t152 => (if t152 = true then (laws_FnExactTaskPut.j1 kj11 l0 t120 t123 t141 (t144 != t123) a1_0 a1_1 a1_2 a1_3 a1_4 a1_5 a1_6 a1_7 a1_8 a1_9 a1_10 a1_11 a1_12 a1_13) else (laws_FnExactTaskPut.j1 kj11 l0 t120 t123 t141 true a1_0 a1_1 a1_2 a1_3 a1_4 a1_5 a1_6 a1_7 a1_8 a1_9 a1_10 a1_11 a1_12 a1_13)))) = some r := H
        have A36 := Aside0.mk A360
        clear A360
        have HC37 := Aside0.mk H
        clear H
        go_upto_region 14 with (first | ((with_reducible refine gate_callee (f := 7) rfl ?_); refine gL (some 49) Try.func7 #[.slice A0 l0.length c0] ?_; (with_reducible refine (laws_toTaskS.calls kj11 _ _ l0 t146 _ ?side1 ?side2 A33.out).mono ?_); (case side1 => repeat (first | exact (Kd.C_below HR0.out HB.out) | (with_reducible refine Kd.C_alloc ?_ _) | (with_reducible refine Kd.C_drewN ?_ _) | (with_reducible refine Kd.C_drew ?_))); (case side2 => exact HC0.out); rintro e w38 ⟨v147, rfl, ho0, hb⟩; refine ⟨_, rfl, ?_⟩; have n0_ := aM (Kd.R_elder' (rq HO_6) (Kd.R_base ho0) hb); have n1_ := aM (Kd.R_elder' (rq HO_8) (Kd.R_base ho0) hb); have n2_ := aM (Kd.R_elder' (rq HO_9) (Kd.R_base ho0) hb); have n3_ := aM (Kd.R_lower (Kd.R_new' (Kd.R_new' (Kd.R_new' ho0 (Kd.R_lt (rq HO_6))) (Kd.R_lt (rq HO_8))) (Kd.R_lt (rq HO_9))) (below_size (bq HB))); have n4_ := aM (blk_below (kq BK101) hb); have n5_ := aM (below_step (bq HB) hb); clear HO_6 HO_8 HO_9 BK101 HB; have HO_6 := n0_; have HO_8 := n1_; have HO_9 := n2_; have HO148 := n3_; have BK101 := n4_; have HB := n5_; clear n0_ n1_ n2_ n3_ n4_ n5_; (try clear hb); (try clear hb2); (try clear hk); (try clear hi); (try clear ho0); obtain ⟨Ao39, co39, eo39⟩ := Kd.R_slice HO148.out; subst eo39) | ((with_reducible refine gate_callee (f := 10) rfl ?_); refine gL (some 50) Try.func10 #[.slice Ao22 t124.length co22, .slice Ao39 t146.length co39] ?_; (with_reducible refine (laws_eqTaskS.calls kj11 _ _ t124 _ _ t146 true _ ?side1 ?side2 ?side3 ?side4 A34.out).mono ?_); (case side1 => repeat (first | exact (Kd.R_reads' HO_8.out).2.2 | (with_reducible refine Kd.C_alloc ?_ _) | (with_reducible refine Kd.C_drewN ?_ _) | (with_reducible refine Kd.C_drew ?_))); (case side2 => exact (Kd.R_reads' HO_8.out).2.1); (case side3 => repeat (first | exact (Kd.R_reads' HO148.out).2.2 | (with_reducible refine Kd.C_alloc ?_ _) | (with_reducible refine Kd.C_drewN ?_ _) | (with_reducible refine Kd.C_drew ?_))); (case side4 => exact (Kd.R_reads' HO148.out).2.1); rintro e w40 ⟨rfl, hb⟩; refine ⟨_, rfl, ?_⟩; have n0_ := aM (Kd.R_below (rq HO_6) hb); have n1_ := aM (Kd.R_below (rq HO_8) hb); have n2_ := aM (Kd.R_below (rq HO_9) hb); have n3_ := aM (Kd.R_below (rq HO148) hb); have n4_ := aM (blk_below (kq BK101) hb); have n5_ := aM (below_step (bq HB) hb); clear HO_6 HO_8 HO_9 HO148 BK101 HB; have HO_6 := n0_; have HO_8 := n1_; have HO_9 := n2_; have HO148 := n3_; have BK101 := n4_; have HB := n5_; clear n0_ n1_ n2_ n3_ n4_ n5_; (try clear hb); (try clear hb2); (try clear hk); (try clear hi)) | ((with_reducible refine gate_callee (f := 11) rfl ?_); refine gL (some 54) Try.func11 #[.slice Ao22 t124.length co22, .int .i64 1] ?_; (with_reducible refine (laws_markTaskS.calls kj11 (fun k_ => some k_ = (.slice Ao22 t124.length co22 : Value).ownBlock) (.slice Ao22 t124.length co22) t124 1 t150 t151 w _ ?side1 ?side2 A36.out).mono ?_); (case side1 => repeat (first | (with_reducible first | exact HB.out | apply beA | apply beD | apply bed | refine beS ?_ GE101.out) | exact HB.out)); (case side2 => exact Kd.R_tight rfl HO_8.out); rintro e w41 ⟨rfl, hy0, hb, hkp⟩; refine ⟨_, rfl, ?_⟩; have n0_ := aM (Kd.R_mono (ok' := fun k_ => some k_ ≠ (.slice Ao22 t124.length co22 : Value).ownBlock ∧ some k_ ≠ (v142 : Value).ownBlock ∧ some k_ ≠ (.slice Ao39 t146.length co39 : Value).ownBlock) (Kd.R_keptB (HO_6.out) hkp (fun k_ hk_ hs_ => (hk_.1.1) hs_)) (fun k_ hk_ => ⟨hk_.1.1.1, hk_.1.1.2, hk_.1.2⟩)); have n1_ := aM (Kd.R_reok rfl hy0 (fun k_ e_ => HO_8.out.1 k_ e_)); have n2_ := aM (Kd.R_mono (ok' := fun k_ => some k_ ≠ (v121 : Value).ownBlock ∧ some k_ ≠ (.slice Ao22 t124.length co22 : Value).ownBlock ∧ some k_ ≠ (.slice Ao39 t146.length co39 : Value).ownBlock) (Kd.R_keptB (HO_9.out) hkp (fun k_ hk_ hs_ => (hk_.1.2) hs_)) (fun k_ hk_ => ⟨hk_.1.1.1, hk_.1.1.2, hk_.1.2⟩)); have n3_ := aM (blk_kept (kq BK101) hkp (fun hs_ => (fun e_ => (Kd.R_ne HO_8.out BK101.out (by decide)) e_) hs_)); have n4_ := aM (Kd.R_mono (ok' := fun k_ => some k_ ≠ (v121 : Value).ownBlock ∧ some k_ ≠ (.slice Ao22 t124.length co22 : Value).ownBlock ∧ some k_ ≠ (v142 : Value).ownBlock) (Kd.R_keptB (HO148.out) hkp (fun k_ hk_ hs_ => (hk_.1.2) hs_)) (fun k_ hk_ => ⟨hk_.1.1.1.2, hk_.1.1.2, hk_.1.2⟩)); have n5_ := aM (hb); clear HO_6 HO_8 HO_9 BK101 HO148 HB; have HO_6 := n0_; have HO_8 := n1_; have HO_9 := n2_; have BK101 := n3_; have HO148 := n4_; have HB := n5_; clear n0_ n1_ n2_ n3_ n4_ n5_; (try clear hb); (try clear hkp); (try clear hy0)))
        (try simp only [Act.put, tA, tB, tC])
        go_cut [67] (fun v67 wc => ∃ (kq : Nat) (x67_36 : Bool), v67 = .bool x67_36 ∧ Aside0 (laws_FnExactTaskPut.j1 kq l0 t120 t123 t141 x67_36 a1_0 a1_1 a1_2 a1_3 a1_4 a1_5 a1_6 a1_7 a1_8 a1_9 a1_10 a1_11 a1_12 a1_13 = some r) ∧ Aside0 (kq ≤ kj11) ∧ Aside0 (Kd.R k30 30 wc w.heap.size (fun k_ => some k_ ≠ (v142 : Value).ownBlock) v121 t120) ∧ Aside0 (Kd.R k30 30 wc w.heap.size (fun k_ => some k_ ≠ (v121 : Value).ownBlock) v142 t141) ∧ Aside0 (wc.heap[gb101]? = some (.cells #[.int .i64 a1_0, .int .i64 a1_1, .int .i64 a1_2, .int .i64 a1_3, .bool a1_4, .int .i64 a1_5, .int .i64 a1_6, .int .i64 a1_7, .int .i64 a1_8, .int .i64 a1_9, .int .i64 a1_10, .int .i64 a1_11, .int .i64 a1_12, .int .i64 a1_13] 24 (0, 0))) ∧ Aside0 (Below w.heap.size w wc))
        case first =>
          have H := HC37.out
          clear HC37
          by_cases c42 : t150 < 0
          · rw [if_pos c42] at H
            have c42b0 : decide (t150 < 0) = true := decide_eq_true c42
            clear c42
            (first | rw [c42b0] | (simp only [i64_w, i32_w]; rw [c42b0]) | skip)
            have H' := Aside0.mk H
            clear H
            go_wp2
            go_meet
            case rel => exact ⟨_, (true), (by first | rfl | (simp; done) | (simp [*]; done)), H', ⟨by have := HJ11.out; first | omega | exact Nat.le_refl _⟩, ⟨by (with_reducible repeat (first | apply Kd.R_alloc | apply Kd.R_drewN | apply Kd.R_drew)); exact Kd.R_mono HO_6.out (fun _ hk => hk.2.1)⟩, ⟨by (with_reducible repeat (first | apply Kd.R_alloc | apply Kd.R_drewN | apply Kd.R_drew)); exact Kd.R_mono HO_9.out (fun _ hk => hk.1)⟩, ⟨by (with_reducible repeat (first | apply bkD | apply bkd | apply bkA)); exact BK101.out⟩, ⟨bq HB⟩⟩
          rw [if_neg c42] at H
          have c42b0 : decide (t150 < 0) = false := decide_eq_false c42
          clear c42
          (first | rw [c42b0] | (simp only [i64_w, i32_w]; rw [c42b0]) | skip)
          replace H := Option.bind_eq_some_iff.mp H
          obtain ⟨t152, A430, H⟩ := H
          replace H : (if t152 = true then (laws_FnExactTaskPut.j1 kj11 l0 t120 t123 t141 (t144 != t123) a1_0 a1_1 a1_2 a1_3 a1_4 a1_5 a1_6 a1_7 a1_8 a1_9 a1_10 a1_11 a1_12 a1_13) else (laws_FnExactTaskPut.j1 kj11 l0 t120 t123 t141 true a1_0 a1_1 a1_2 a1_3 a1_4 a1_5 a1_6 a1_7 a1_8 a1_9 a1_10 a1_11 a1_12 a1_13)) = some r := H
          have A43 := Aside0.mk A430
          clear A430
          by_cases c44 : t152 = true
          · subst c44
            have H1 : (laws_FnExactTaskPut.j1 kj11 l0 t120 t123 t141 (t144 != t123) a1_0 a1_1 a1_2 a1_3 a1_4 a1_5 a1_6 a1_7 a1_8 a1_9 a1_10 a1_11 a1_12 a1_13) = some r := by rw [if_pos rfl] at H; exact H
            clear H
            have H := H1
            clear H1
            have H' := Aside0.mk H
            clear H
            obtain ⟨Ao45, co45, eo45⟩ := Kd.R_slice HO_9.out
            subst eo45
            obtain ⟨Ao46, co46, eo46⟩ := Kd.R_slice HO_6.out
            subst eo46
            go_wp2_with (first | (go_at_call 10; (with_reducible refine (laws_eqTaskS.calls kj11 _ _ t141 _ _ t120 true _ ?side1 ?side2 ?side3 ?side4 A43.out).mono ?_); (case side1 => repeat (first | exact (Kd.R_reads' HO_9.out).2.2 | (with_reducible refine Kd.C_alloc ?_ _) | (with_reducible refine Kd.C_drewN ?_ _) | (with_reducible refine Kd.C_drew ?_))); (case side2 => exact (Kd.R_reads' HO_9.out).2.1); (case side3 => repeat (first | exact (Kd.R_reads' HO_6.out).2.2 | (with_reducible refine Kd.C_alloc ?_ _) | (with_reducible refine Kd.C_drewN ?_ _) | (with_reducible refine Kd.C_drew ?_))); (case side4 => exact (Kd.R_reads' HO_6.out).2.1); rintro e w47 ⟨rfl, hb⟩; have n0_ := aM (Kd.R_below (rq HO_6) hb); have n1_ := aM (Kd.R_below (rq HO_8) hb); have n2_ := aM (Kd.R_below (rq HO_9) hb); have n3_ := aM (Kd.R_below (rq HO148) hb); have n4_ := aM (blk_below (kq BK101) hb); have n5_ := aM (below_step (bq HB) hb); clear HO_6 HO_8 HO_9 HO148 BK101 HB; have HO_6 := n0_; have HO_8 := n1_; have HO_9 := n2_; have HO148 := n3_; have BK101 := n4_; have HB := n5_; clear n0_ n1_ n2_ n3_ n4_ n5_; (try clear hb); (try clear hb2); (try clear hk); (try clear hi)))
            go_meet
            case rel => exact ⟨_, ((t144 != t123)), (by first | rfl | (simp; done) | (simp [*]; done)), H', ⟨by have := HJ11.out; first | omega | exact Nat.le_refl _⟩, ⟨by (with_reducible repeat (first | apply Kd.R_alloc | apply Kd.R_drewN | apply Kd.R_drew)); exact Kd.R_mono HO_6.out (fun _ hk => hk.2.1)⟩, ⟨by (with_reducible repeat (first | apply Kd.R_alloc | apply Kd.R_drewN | apply Kd.R_drew)); exact Kd.R_mono HO_9.out (fun _ hk => hk.1)⟩, ⟨by (with_reducible repeat (first | apply bkD | apply bkd | apply bkA)); exact BK101.out⟩, ⟨bq HB⟩⟩
          replace c44 := Bool.eq_false_iff.mpr c44
          subst c44
          have H1 : (laws_FnExactTaskPut.j1 kj11 l0 t120 t123 t141 true a1_0 a1_1 a1_2 a1_3 a1_4 a1_5 a1_6 a1_7 a1_8 a1_9 a1_10 a1_11 a1_12 a1_13) = some r := by rw [if_neg (show ¬ (false = true) by decide)] at H; exact H
          clear H
          have H := H1
          clear H1
          have H' := Aside0.mk H
          clear H
          obtain ⟨Ao48, co48, eo48⟩ := Kd.R_slice HO_9.out
          subst eo48
          obtain ⟨Ao49, co49, eo49⟩ := Kd.R_slice HO_6.out
          subst eo49
          go_wp2_with (first | (go_at_call 10; (with_reducible refine (laws_eqTaskS.calls kj11 _ _ t141 _ _ t120 false _ ?side1 ?side2 ?side3 ?side4 A43.out).mono ?_); (case side1 => repeat (first | exact (Kd.R_reads' HO_9.out).2.2 | (with_reducible refine Kd.C_alloc ?_ _) | (with_reducible refine Kd.C_drewN ?_ _) | (with_reducible refine Kd.C_drew ?_))); (case side2 => exact (Kd.R_reads' HO_9.out).2.1); (case side3 => repeat (first | exact (Kd.R_reads' HO_6.out).2.2 | (with_reducible refine Kd.C_alloc ?_ _) | (with_reducible refine Kd.C_drewN ?_ _) | (with_reducible refine Kd.C_drew ?_))); (case side4 => exact (Kd.R_reads' HO_6.out).2.1); rintro e w50 ⟨rfl, hb⟩; have n0_ := aM (Kd.R_below (rq HO_6) hb); have n1_ := aM (Kd.R_below (rq HO_8) hb); have n2_ := aM (Kd.R_below (rq HO_9) hb); have n3_ := aM (Kd.R_below (rq HO148) hb); have n4_ := aM (blk_below (kq BK101) hb); have n5_ := aM (below_step (bq HB) hb); clear HO_6 HO_8 HO_9 HO148 BK101 HB; have HO_6 := n0_; have HO_8 := n1_; have HO_9 := n2_; have HO148 := n3_; have BK101 := n4_; have HB := n5_; clear n0_ n1_ n2_ n3_ n4_ n5_; (try clear hb); (try clear hb2); (try clear hk); (try clear hi)))
          go_meet
          case rel => exact ⟨_, (true), (by first | rfl | (simp; done) | (simp [*]; done)), H', ⟨by have := HJ11.out; first | omega | exact Nat.le_refl _⟩, ⟨by (with_reducible repeat (first | apply Kd.R_alloc | apply Kd.R_drewN | apply Kd.R_drew)); exact Kd.R_mono HO_6.out (fun _ hk => hk.2.1)⟩, ⟨by (with_reducible repeat (first | apply Kd.R_alloc | apply Kd.R_drewN | apply Kd.R_drew)); exact Kd.R_mono HO_9.out (fun _ hk => hk.1)⟩, ⟨by (with_reducible repeat (first | apply bkD | apply bkd | apply bkA)); exact BK101.out⟩, ⟨bq HB⟩⟩
        case rest =>
          clear HC37
          try clear c1
          try clear c2
          try clear p2
          try clear c3
          try clear c4
          try clear c4b0
          try clear c5
          try clear c6
          try clear c7
          try clear c8
          try clear c9
          try clear c10
          try clear c11
          try clear c25
          try clear c32
          try clear c35
          try clear c42
          try clear c42b0
          try clear c44
          try clear hfz20_0
          try clear p2
          obtain ⟨kq, x67_36, rfl, HA, HJ36, HO_6, HO_9, BK101, HB⟩ := hcut
          cases kq with
          | zero => exact absurd HA.out (by simp [laws_FnExactTaskPut.j1])
          | succ kj36 =>
            have H := HA.out
            clear HA
            simp only [laws_FnExactTaskPut.j1] at H
            by_cases c51 : x67_36 = true
            · subst c51
              have H1 : (some false) = some r := by rw [if_pos rfl] at H; exact H
              clear H
              have H := H1
              clear H1
              exact absurd ((Option.some.inj H).trans HRT.out) Bool.false_ne_true
            replace c51 := Bool.eq_false_iff.mpr c51
            subst c51
            have H1 : ((laws_markTaskS.f kj36 t141 1).bind fun bt153 => ((laws_heldTaskS.f kj36 bt153.2 1).bind fun t155 => (if t155 < 0 then (some false) else (if t155 = bt153.1 then ((laws_toTaskS.f kj36 l0).bind fun t156 => ((laws_toTask.f a1_0 a1_1 a1_2 a1_3 a1_4 a1_5 a1_6 a1_7 a1_8 a1_9 a1_10 a1_11 a1_12 a1_13).bind fun bt159 => ((impl_TaskPut.f kj36 t156 bt159.1 bt159.2.1 bt159.2.2.1 bt159.2.2.2.1 bt159.2.2.2.2.1 bt159.2.2.2.2.2.1 bt159.2.2.2.2.2.2.1 bt159.2.2.2.2.2.2.2.1 bt159.2.2.2.2.2.2.2.2.1 bt159.2.2.2.2.2.2.2.2.2.1 bt159.2.2.2.2.2.2.2.2.2.2.1 bt159.2.2.2.2.2.2.2.2.2.2.2.1 bt159.2.2.2.2.2.2.2.2.2.2.2.2.1 bt159.2.2.2.2.2.2.2.2.2.2.2.2.2).bind fun bt173 => ((laws_eqTaskS.f kj36 bt173.1 t120).bind fun t177 => (if t177 = true then (laws_FnExactTaskPut.j2 kj36 bt153.2 bt153.1 (bt173.2 != t123)) else (laws_FnExactTaskPut.j2 kj36 bt153.2 bt153.1 true)))))) else (some false))))) = some r := by rw [if_neg (show ¬ (false = true) by decide)] at H; exact H
            clear H
            have H := H1
            clear H1
            replace H := Option.bind_eq_some_iff.mp H
            obtain ⟨⟨t153, t154⟩, A520, H⟩ := H
            replace H : ((laws_heldTaskS.f kj36 t154 1).bind fun t155 => (if t155 < 0 then (some false) else (if t155 = t153 then ((laws_toTaskS.f kj36 l0).bind fun t156 => ((laws_toTask.f a1_0 a1_1 a1_2 a1_3 a1_4 a1_5 a1_6 a1_7 a1_8 a1_9 a1_10 a1_11 a1_12 a1_13).bind fun bt159 => ((impl_TaskPut.f kj36 t156 bt159.1 bt159.2.1 bt159.2.2.1 bt159.2.2.2.1 bt159.2.2.2.2.1 bt159.2.2.2.2.2.1 bt159.2.2.2.2.2.2.1 bt159.2.2.2.2.2.2.2.1 bt159.2.2.2.2.2.2.2.2.1 bt159.2.2.2.2.2.2.2.2.2.1 bt159.2.2.2.2.2.2.2.2.2.2.1 bt159.2.2.2.2.2.2.2.2.2.2.2.1 bt159.2.2.2.2.2.2.2.2.2.2.2.2.1 bt159.2.2.2.2.2.2.2.2.2.2.2.2.2).bind fun bt173 => ((laws_eqTaskS.f kj36 bt173.1 t120).bind fun t177 => (if t177 = true then (laws_FnExactTaskPut.j2 kj36 t154 t153 (bt173.2 != t123)) else (laws_FnExactTaskPut.j2 kj36 t154 t153 true)))))) else (some false)))) = some r := H
            have A52 := Aside0.mk A520
            clear A520
            replace H := Option.bind_eq_some_iff.mp H
            obtain ⟨t155, A530, H⟩ := H
            replace H : (if t155 < 0 then (some false) else (if t155 = t153 then ((laws_toTaskS.f kj36 l0).bind fun t156 => ((laws_toTask.f a1_0 a1_1 a1_2 a1_3 a1_4 a1_5 a1_6 a1_7 a1_8 a1_9 a1_10 a1_11 a1_12 a1_13).bind fun bt159 => ((impl_TaskPut.f kj36 t156 bt159.1 bt159.2.1 bt159.2.2.1 bt159.2.2.2.1 bt159.2.2.2.2.1 bt159.2.2.2.2.2.1 bt159.2.2.2.2.2.2.1 bt159.2.2.2.2.2.2.2.1 bt159.2.2.2.2.2.2.2.2.1 bt159.2.2.2.2.2.2.2.2.2.1 bt159.2.2.2.2.2.2.2.2.2.2.1 bt159.2.2.2.2.2.2.2.2.2.2.2.1 bt159.2.2.2.2.2.2.2.2.2.2.2.2.1 bt159.2.2.2.2.2.2.2.2.2.2.2.2.2).bind fun bt173 => ((laws_eqTaskS.f kj36 bt173.1 t120).bind fun t177 => (if t177 = true then (laws_FnExactTaskPut.j2 kj36 t154 t153 (bt173.2 != t123)) else (laws_FnExactTaskPut.j2 kj36 t154 t153 true)))))) else (some false))) = some r := H
            have A53 := Aside0.mk A530
            clear A530
            by_cases c54 : t155 < 0
            · rw [if_pos c54] at H
              have c54b0 : decide (t155 < 0) = true := decide_eq_true c54
              clear c54
              exact absurd ((Option.some.inj H).trans HRT.out) Bool.false_ne_true
            rw [if_neg c54] at H
            have c54b0 : decide (t155 < 0) = false := decide_eq_false c54
            clear c54
            by_cases c55 : t155 = t153
            · rw [if_pos c55] at H
              have c55b0 : (t155 == t153) = true := beq_iff_eq.mpr c55
              have c55b1 : (t155 != t153) = false := bne_eq_false_iff_eq.mpr c55
              clear c55
              replace H := Option.bind_eq_some_iff.mp H
              obtain ⟨t156, A560, H⟩ := H
              replace H : ((laws_toTask.f a1_0 a1_1 a1_2 a1_3 a1_4 a1_5 a1_6 a1_7 a1_8 a1_9 a1_10 a1_11 a1_12 a1_13).bind fun bt159 => ((impl_TaskPut.f kj36 t156 bt159.1 bt159.2.1 bt159.2.2.1 bt159.2.2.2.1 bt159.2.2.2.2.1 bt159.2.2.2.2.2.1 bt159.2.2.2.2.2.2.1 bt159.2.2.2.2.2.2.2.1 bt159.2.2.2.2.2.2.2.2.1 bt159.2.2.2.2.2.2.2.2.2.1 bt159.2.2.2.2.2.2.2.2.2.2.1 bt159.2.2.2.2.2.2.2.2.2.2.2.1 bt159.2.2.2.2.2.2.2.2.2.2.2.2.1 bt159.2.2.2.2.2.2.2.2.2.2.2.2.2).bind fun bt173 => ((laws_eqTaskS.f kj36 bt173.1 t120).bind fun t177 => (if t177 = true then (laws_FnExactTaskPut.j2 kj36 t154 t153 (bt173.2 != t123)) else (laws_FnExactTaskPut.j2 kj36 t154 t153 true))))) = some r := H
              have A56 := Aside0.mk A560
              clear A560
              replace H := Option.bind_eq_some_iff.mp H
              obtain ⟨⟨t159, t160, t161, t162, t163, t164, t165, t166, t167, t168, t169, t170, t171, t172⟩, A570, H⟩ := H
              replace H : ((impl_TaskPut.f kj36 t156 t159 t160 t161 t162 t163 t164 t165 t166 t167 t168 t169 t170 t171 t172).bind fun bt173 => ((laws_eqTaskS.f kj36 bt173.1 t120).bind fun t177 => (if t177 = true then (laws_FnExactTaskPut.j2 kj36 t154 t153 (bt173.2 != t123)) else (laws_FnExactTaskPut.j2 kj36 t154 t153 true)))) = some r := H
              have A57 := Aside0.mk A570
              clear A570
              replace H := Option.bind_eq_some_iff.mp H
              obtain ⟨⟨t173, t176⟩, A580, H⟩ := H
              replace H : ((laws_eqTaskS.f kj36 t173 t120).bind fun t177 => (if t177 = true then (laws_FnExactTaskPut.j2 kj36 t154 t153 (t176 != t123)) else (laws_FnExactTaskPut.j2 kj36 t154 t153 true))) = some r := H
              have A58 := Aside0.mk A580
              clear A580
              have HC59 := Aside0.mk H
              clear H
              obtain ⟨Ao60, co60, eo60⟩ := Kd.R_slice HO_9.out
              subst eo60
              try go_wp2_with (first | ((with_reducible refine gate_callee (f := 11) rfl ?_); refine gL (some 70) Try.func11 #[.slice Ao60 t141.length co60, .int .i64 1] ?_; (with_reducible refine (laws_markTaskS.calls kj36 (fun k_ => some k_ = (.slice Ao60 t141.length co60 : Value).ownBlock) (.slice Ao60 t141.length co60) t141 1 t153 t154 w _ ?side1 ?side2 A52.out).mono ?_); (case side1 => repeat (first | (with_reducible first | exact HB.out | apply beA | apply beD | apply bed | refine beS ?_ GE101.out) | exact HB.out)); (case side2 => exact Kd.R_tight rfl HO_9.out); rintro e w61 ⟨rfl, hy0, hb, hkp⟩; refine ⟨_, rfl, ?_⟩; have n0_ := aM (Kd.R_mono (ok' := fun k_ => some k_ ≠ (.slice Ao60 t141.length co60 : Value).ownBlock) (Kd.R_keptB (HO_6.out) hkp (fun k_ hk_ hs_ => (hk_) hs_)) (fun k_ hk_ => hk_.1)); have n1_ := aM (Kd.R_reok rfl hy0 (fun k_ e_ => HO_9.out.1 k_ e_)); have n2_ := aM (blk_kept (kq BK101) hkp (fun hs_ => (fun e_ => (Kd.R_ne HO_9.out BK101.out (by decide)) e_) hs_)); have n3_ := aM (hb); clear HO_6 HO_9 BK101 HB; have HO_6 := n0_; have HO_9 := n1_; have BK101 := n2_; have HB := n3_; clear n0_ n1_ n2_ n3_; (try clear hb); (try clear hkp); (try clear hy0)) | ((with_reducible refine gate_callee (f := 12) rfl ?_); refine goesL_ (some 73) rfl rfl Try.func12 (by kernel_rfl) rfl #[.slice Ao60 t154.length co60, .int .i64 1] rfl (by (try simp only [List.map_toArray, List.map_cons, List.map_nil]); first | done | (rw [show t154.length = t141.length from (Kd.R_reads' HO_9.out).1.symm] <;> rfl) | rfl | (simp only [List.length_drop, List.length_take]; rfl)) ?_; (with_reducible refine (laws_heldTaskS.calls kj36 _ _ t154 1 t155 _ ?side1 ?side2 A53.out).mono ?_); (case side1 => repeat (first | exact (Kd.R_reads' HO_9.out).2.2 | (with_reducible refine Kd.C_alloc ?_ _) | (with_reducible refine Kd.C_drewN ?_ _) | (with_reducible refine Kd.C_drew ?_))); (case side2 => rw [show t154.length = t141.length from (Kd.R_reads' HO_9.out).1.symm]; exact (Kd.R_reads' HO_9.out).2.1); rintro e w' ⟨rfl, ⟨nd, rfl⟩⟩; refine ⟨_, rfl, ?_⟩))
              (try (rw [drewN_self w61]; generalize hq_ : World.drewN w61 _ = w61; have n0_ : Aside0 (Kd.R k30 30 w61 w.heap.size (fun k_ => some k_ ≠ (.slice Ao60 t141.length co60 : Value).ownBlock) v121 t120) := ⟨by rw [← hq_]; exact (rq HO_6)⟩; have n1_ : Aside0 (Kd.R k30 30 w61 w.heap.size (fun k_ => some k_ ≠ (v121 : Value).ownBlock) (.slice Ao60 t141.length co60) t154) := ⟨by rw [← hq_]; exact (rq HO_9)⟩; have n2_ : Aside0 (w61.heap[gb101]? = some (.cells #[.int .i64 a1_0, .int .i64 a1_1, .int .i64 a1_2, .int .i64 a1_3, .bool a1_4, .int .i64 a1_5, .int .i64 a1_6, .int .i64 a1_7, .int .i64 a1_8, .int .i64 a1_9, .int .i64 a1_10, .int .i64 a1_11, .int .i64 a1_12, .int .i64 a1_13] 24 (0, 0))) := ⟨by rw [← hq_]; exact (kq BK101)⟩; have n3_ : Aside0 (Below w.heap.size w w61) := ⟨by rw [← hq_]; exact (bq HB)⟩; clear HO_6 HO_9 BK101 HB hq_; have HO_6 := n0_; have HO_9 := n1_; have BK101 := n2_; have HB := n3_; clear n0_ n1_ n2_ n3_))
              have n0_ := aM (Kd.R_drew HO_6.out)
              have n1_ := aM (Kd.R_drew HO_9.out)
              have n2_ := aM (blk_drew BK101.out)
              have n3_ := aM (below_drew1 HB.out)
              clear HO_6 HO_9 BK101 HB
              have HO_6 := n0_
              have HO_9 := n1_
              have BK101 := n2_
              have HB := n3_
              clear n0_ n1_ n2_ n3_
              refine start_ (n := 10) (S := fun w' => cb14 w' gb101 (.int .i64 a1_0) (.int .i64 a1_1) (.int .i64 a1_2) (.int .i64 a1_3) (.bool a1_4) (.int .i64 a1_5) (.int .i64 a1_6) (.int .i64 a1_7) (.int .i64 a1_8) (.int .i64 a1_9) (.int .i64 a1_10) (.int .i64 a1_11) (.int .i64 a1_12) (.int .i64 a1_13)) (ds := []) #[nn,nn,nn,nn,nn,nn,nn,nn,nn,nn] (by kernel_rfl) rfl rfl ⟨(blk_cell BK101.out 0).trans rfl, (blk_cell BK101.out 1).trans rfl, (blk_cell BK101.out 2).trans rfl, (blk_cell BK101.out 3).trans rfl, (blk_cell BK101.out 4).trans rfl, (blk_cell BK101.out 5).trans rfl, (blk_cell BK101.out 6).trans rfl, (blk_cell BK101.out 7).trans rfl, (blk_cell BK101.out 8).trans rfl, (blk_cell BK101.out 9).trans rfl, (blk_cell BK101.out 10).trans rfl, (blk_cell BK101.out 11).trans rfl, (blk_cell BK101.out 12).trans rfl, (blk_cell BK101.out 13).trans rfl⟩ (fun hHeld => ?_); refine with_tabW laws_FnExactTaskPut.tab24 laws_FnExactTaskPut.bits24 (fun HT_ HW_ => ?_)
              generalize w61.drew = w62 at HO_6 HO_9 BK101 HB hHeld ⊢
              refine pQ (i := 0) (N := some 80) #[yy,nn,nn,nn,nn,nn,nn,nn,nn,nn] (any_of HT_.out (by kernel_rfl)) ?_
              refine tQ (i := 2) (N := some 82) #[yy,nn,yy,nn,nn,nn,nn,nn,nn,nn] (take_ofW HT_.out HW_.out (by kernel_rfl)) hHeld ?_
              refine one_ (i := 1) (N := some 81) #[yy,yy,yy,nn,nn,nn,nn,nn,nn,nn] rfl rfl (one_of HT_.out (by kernel_rfl)) (by decide) (fun K hK => ?_)
              refine goes_ Try.func7 (by kernel_rfl) rfl #[.slice A0 l0.length c0] (by rfl) rfl rfl (by (try simp only [List.map_toArray, List.map_cons, List.map_nil]); first | done | rfl | (simp only [List.length_drop, List.length_take]; rfl)) ?_
              with_reducible refine (laws_toTaskS.calls kj36 _ _ l0 t156 _ ?side1 ?side2 A56.out).mono ?_
              (case side1 => repeat (first | exact (Kd.C_below HR0.out HB.out) | (with_reducible refine Kd.C_alloc ?_ _) | (with_reducible refine Kd.C_drewN ?_ _) | (with_reducible refine Kd.C_drew ?_)))
              (case side2 => exact HC0.out)
              rintro e w63 ⟨v157, rfl, ho0, hb⟩
              refine ⟨_, rfl, ?_⟩
              have n0_ := aM (Kd.R_elder' (rq HO_6) (Kd.R_base ho0) hb)
              have n1_ := aM (Kd.R_elder' (rq HO_9) (Kd.R_base ho0) hb)
              have n2_ := aM (Kd.R_lower (Kd.R_new' (Kd.R_new' ho0 (Kd.R_lt (rq HO_6))) (Kd.R_lt (rq HO_9))) (below_size (bq HB)))
              have n3_ := aM (blk_below (kq BK101) hb)
              have n4_ := aM (below_step (bq HB) hb)
              clear HO_6 HO_9 BK101 HB
              have HO_6 := n0_
              have HO_9 := n1_
              have HO158 := n2_
              have BK101 := n3_
              have HB := n4_
              clear n0_ n1_ n2_ n3_ n4_
              (try clear hb)
              (try clear hb2)
              (try clear hk)
              (try clear hi)
              (try clear ho0)
              refine hK.out _ _ ⟨(blk_cell BK101.out 0).trans rfl, (blk_cell BK101.out 1).trans rfl, (blk_cell BK101.out 2).trans rfl, (blk_cell BK101.out 3).trans rfl, (blk_cell BK101.out 4).trans rfl, (blk_cell BK101.out 5).trans rfl, (blk_cell BK101.out 6).trans rfl, (blk_cell BK101.out 7).trans rfl, (blk_cell BK101.out 8).trans rfl, (blk_cell BK101.out 9).trans rfl, (blk_cell BK101.out 10).trans rfl, (blk_cell BK101.out 11).trans rfl, (blk_cell BK101.out 12).trans rfl, (blk_cell BK101.out 13).trans rfl⟩ (fun hHeld => ?_)
              clear hK K
              refine nQ (N := some 81) ?_
              refine one_ (i := 3) (N := some 83) #[yy,yy,yy,yy,nn,nn,nn,nn,nn,nn] rfl rfl (one_of HT_.out (by kernel_rfl)) (by decide) (fun K hK => ?_)
              refine goes_ Try.func8 (by kernel_rfl) rfl #[.agg #[.int .i64 a1_0, .int .i64 a1_1, .int .i64 a1_2, .int .i64 a1_3, .bool a1_4, .int .i64 a1_5, .int .i64 a1_6, .int .i64 a1_7, .int .i64 a1_8, .int .i64 a1_9, .int .i64 a1_10, .int .i64 a1_11, .int .i64 a1_12, .int .i64 a1_13]] (by rfl) rfl rfl (by (try simp only [List.map_toArray, List.map_cons, List.map_nil]); first | done | rfl | (simp only [List.length_drop, List.length_take]; rfl)) ?_
              with_reducible refine (laws_toTask.calls a1_0 a1_1 a1_2 a1_3 a1_4 a1_5 a1_6 a1_7 a1_8 a1_9 a1_10 a1_11 a1_12 a1_13 t159 t160 t161 t162 t163 t164 t165 t166 t167 t168 t169 t170 t171 t172 _ A57.out).mono ?_
              rintro e w64 ⟨rfl, hb⟩
              refine ⟨_, rfl, ?_⟩
              have n0_ := aM (Kd.R_below (rq HO_6) hb)
              have n1_ := aM (Kd.R_below (rq HO_9) hb)
              have n2_ := aM (Kd.R_below (rq HO158) hb)
              have n3_ := aM (blk_below (kq BK101) hb)
              have n4_ := aM (below_step (bq HB) hb)
              clear HO_6 HO_9 HO158 BK101 HB
              have HO_6 := n0_
              have HO_9 := n1_
              have HO158 := n2_
              have BK101 := n3_
              have HB := n4_
              clear n0_ n1_ n2_ n3_ n4_
              (try clear hb)
              (try clear hb2)
              (try clear hk)
              (try clear hi)
              obtain ⟨Ao65, co65, eo65⟩ := Kd.R_slice HO158.out
              (first | subst eo65 | (injection eo65 with f1_ f2_ f3_; have f4_ := f1_.symm; have f5_ := f3_.symm; clear f1_ f2_ f3_; subst f4_; subst f5_))
              refine hK.out _ _ ⟨(blk_cell BK101.out 0).trans rfl, (blk_cell BK101.out 1).trans rfl, (blk_cell BK101.out 2).trans rfl, (blk_cell BK101.out 3).trans rfl, (blk_cell BK101.out 4).trans rfl, (blk_cell BK101.out 5).trans rfl, (blk_cell BK101.out 6).trans rfl, (blk_cell BK101.out 7).trans rfl, (blk_cell BK101.out 8).trans rfl, (blk_cell BK101.out 9).trans rfl, (blk_cell BK101.out 10).trans rfl, (blk_cell BK101.out 11).trans rfl, (blk_cell BK101.out 12).trans rfl, (blk_cell BK101.out 13).trans rfl⟩ (fun hHeld => ?_)
              clear hK K
              refine nQ (N := some 83) ?_
              refine one_ (i := 4) (N := some 84) #[yy,yy,yy,yy,yy,nn,nn,nn,nn,nn] rfl rfl (one_of HT_.out (by kernel_rfl)) (by decide) (fun K hK => ?_)
              refine goes_ Try.func9 (by kernel_rfl) rfl #[.slice Ao65 t156.length co65, .agg #[.int .i64 t159, .int .i64 t160, .int .i64 t161, .int .i64 t162, .bool t163, .int .i64 t164, .int .i64 t165, .int .i64 t166, .int .i64 t167, .int .i64 t168, .int .i64 t169, .int .i64 t170, .int .i64 t171, .int .i64 t172]] (by rfl) rfl rfl (by (try simp only [List.map_toArray, List.map_cons, List.map_nil]); first | done | rfl | (simp only [List.length_drop, List.length_take]; rfl)) ?_
              with_reducible refine (impl_TaskPut.calls kj36 _ _ t156 t159 t160 t161 t162 t163 t164 t165 t166 t167 t168 t169 t170 t171 t172 t173 t176 _ ?side1 ?side2 A58.out).mono ?_
              (case side1 => repeat (first | exact (Kd.R_reads' HO158.out).2.2 | (with_reducible refine Kd.C_alloc ?_ _) | (with_reducible refine Kd.C_drewN ?_ _) | (with_reducible refine Kd.C_drew ?_)))
              (case side2 => exact (Kd.R_reads' HO158.out).2.1)
              rintro e w66 ⟨v174, rfl, ho0, hb⟩
              refine ⟨_, rfl, ?_⟩
              have n0_ := aM (Kd.R_elder' (rq HO_6) (Kd.R_base ho0) hb)
              have n1_ := aM (Kd.R_elder' (rq HO_9) (Kd.R_base ho0) hb)
              have n2_ := aM (Kd.R_elder' (rq HO158) (Kd.R_base ho0) hb)
              have n3_ := aM (Kd.R_lower (Kd.R_new' (Kd.R_new' (Kd.R_new' ho0 (Kd.R_lt (rq HO_6))) (Kd.R_lt (rq HO_9))) (Kd.R_lt (rq HO158))) (below_size (bq HB)))
              have n4_ := aM (blk_below (kq BK101) hb)
              have n5_ := aM (below_step (bq HB) hb)
              clear HO_6 HO_9 HO158 BK101 HB
              have HO_6 := n0_
              have HO_9 := n1_
              have HO158 := n2_
              have HO175 := n3_
              have BK101 := n4_
              have HB := n5_
              clear n0_ n1_ n2_ n3_ n4_ n5_
              (try clear hb)
              (try clear hb2)
              (try clear hk)
              (try clear hi)
              (try clear ho0)
              refine hK.out _ _ ⟨(blk_cell BK101.out 0).trans rfl, (blk_cell BK101.out 1).trans rfl, (blk_cell BK101.out 2).trans rfl, (blk_cell BK101.out 3).trans rfl, (blk_cell BK101.out 4).trans rfl, (blk_cell BK101.out 5).trans rfl, (blk_cell BK101.out 6).trans rfl, (blk_cell BK101.out 7).trans rfl, (blk_cell BK101.out 8).trans rfl, (blk_cell BK101.out 9).trans rfl, (blk_cell BK101.out 10).trans rfl, (blk_cell BK101.out 11).trans rfl, (blk_cell BK101.out 12).trans rfl, (blk_cell BK101.out 13).trans rfl⟩ (fun hHeld => ?_)
              clear hK K
              refine nQ (N := some 84) ?_
              refine pQ (i := 5) (N := some 79) #[yy,yy,yy,yy,yy,yy,nn,nn,nn,nn] (any_of HT_.out (by kernel_rfl)) ?_
              refine pQ (i := 6) (N := some 85) #[yy,yy,yy,yy,yy,yy,yy,nn,nn,nn] (any_of HT_.out (by kernel_rfl)) ?_
              refine pQ (i := 7) (N := some 86) #[yy,yy,yy,yy,yy,yy,yy,yy,nn,nn] (any_of HT_.out (by kernel_rfl)) ?_
              refine pQ (i := 8) (N := some 14) #[yy,yy,yy,yy,yy,yy,yy,yy,yy,nn] (any_of HT_.out (by kernel_rfl)) ?_
              refine pQ (i := 9) (N := some 15) #[yy,yy,yy,yy,yy,yy,yy,yy,yy,yy] (any_of HT_.out (by kernel_rfl)) ?_
              refine done_ (done_of HT_.out (by kernel_rfl)) ?_
              go_upto_region 25 with (fail)
              go_cut [95] (fun v95 wc => ∃ (kq : Nat) (x95_58 : Bool), v95 = .bool x95_58 ∧ Aside0 (laws_FnExactTaskPut.j2 kq t154 t153 x95_58 = some r) ∧ Aside0 (kq ≤ kj36) ∧ Aside0 (Kd.R k30 30 wc w.heap.size (fun _ => True) (.slice Ao60 t141.length co60) t154) ∧ Aside0 (wc.heap[gb101]? = some (.cells #[.int .i64 a1_0, .int .i64 a1_1, .int .i64 a1_2, .int .i64 a1_3, .bool a1_4, .int .i64 a1_5, .int .i64 a1_6, .int .i64 a1_7, .int .i64 a1_8, .int .i64 a1_9, .int .i64 a1_10, .int .i64 a1_11, .int .i64 a1_12, .int .i64 a1_13] 24 (0, 0))) ∧ Aside0 (Below w.heap.size w wc))
              case first =>
                have H := HC59.out
                clear HC59
                replace H := Option.bind_eq_some_iff.mp H
                obtain ⟨t177, A670, H⟩ := H
                replace H : (if t177 = true then (laws_FnExactTaskPut.j2 kj36 t154 t153 (t176 != t123)) else (laws_FnExactTaskPut.j2 kj36 t154 t153 true)) = some r := H
                have A67 := Aside0.mk A670
                clear A670
                by_cases c68 : t177 = true
                · subst c68
                  have H1 : (laws_FnExactTaskPut.j2 kj36 t154 t153 (t176 != t123)) = some r := by rw [if_pos rfl] at H; exact H
                  clear H
                  have H := H1
                  clear H1
                  have H' := Aside0.mk H
                  clear H
                  obtain ⟨Ao69, co69, eo69⟩ := Kd.R_slice HO175.out
                  subst eo69
                  obtain ⟨Ao70, co70, eo70⟩ := Kd.R_slice HO_6.out
                  subst eo70
                  go_wp2_with (first | ((with_reducible refine gate_callee (f := 10) rfl ?_); refine gL (some 89) Try.func10 #[.slice Ao69 t173.length co69, .slice Ao70 t120.length co70] ?_; (with_reducible refine (laws_eqTaskS.calls kj36 _ _ t173 _ _ t120 true _ ?side1 ?side2 ?side3 ?side4 A67.out).mono ?_); (case side1 => repeat (first | exact (Kd.R_reads' HO175.out).2.2 | (with_reducible refine Kd.C_alloc ?_ _) | (with_reducible refine Kd.C_drewN ?_ _) | (with_reducible refine Kd.C_drew ?_))); (case side2 => exact (Kd.R_reads' HO175.out).2.1); (case side3 => repeat (first | exact (Kd.R_reads' HO_6.out).2.2 | (with_reducible refine Kd.C_alloc ?_ _) | (with_reducible refine Kd.C_drewN ?_ _) | (with_reducible refine Kd.C_drew ?_))); (case side4 => exact (Kd.R_reads' HO_6.out).2.1); rintro e w71 ⟨rfl, hb⟩; refine ⟨_, rfl, ?_⟩; have n0_ := aM (Kd.R_below (rq HO_6) hb); have n1_ := aM (Kd.R_below (rq HO_9) hb); have n2_ := aM (Kd.R_below (rq HO158) hb); have n3_ := aM (Kd.R_below (rq HO175) hb); have n4_ := aM (blk_below (kq BK101) hb); have n5_ := aM (below_step (bq HB) hb); clear HO_6 HO_9 HO158 HO175 BK101 HB; have HO_6 := n0_; have HO_9 := n1_; have HO158 := n2_; have HO175 := n3_; have BK101 := n4_; have HB := n5_; clear n0_ n1_ n2_ n3_ n4_ n5_; (try clear hb); (try clear hb2); (try clear hk); (try clear hi)))
                  go_meet
                  case rel => exact ⟨_, ((t176 != t123)), (by first | rfl | (simp; done) | (simp [*]; done)), H', ⟨by have := HJ11.out; have := HJ36.out; first | omega | exact Nat.le_refl _⟩, ⟨by (with_reducible repeat (first | apply Kd.R_alloc | apply Kd.R_drewN | apply Kd.R_drew)); exact Kd.R_mono HO_9.out (fun _ hk => trivial)⟩, ⟨by (with_reducible repeat (first | apply bkD | apply bkd | apply bkA)); exact BK101.out⟩, ⟨bq HB⟩⟩
                replace c68 := Bool.eq_false_iff.mpr c68
                subst c68
                have H1 : (laws_FnExactTaskPut.j2 kj36 t154 t153 true) = some r := by rw [if_neg (show ¬ (false = true) by decide)] at H; exact H
                clear H
                have H := H1
                clear H1
                have H' := Aside0.mk H
                clear H
                obtain ⟨Ao72, co72, eo72⟩ := Kd.R_slice HO175.out
                subst eo72
                obtain ⟨Ao73, co73, eo73⟩ := Kd.R_slice HO_6.out
                subst eo73
                go_wp2_with (first | ((with_reducible refine gate_callee (f := 10) rfl ?_); refine gL (some 89) Try.func10 #[.slice Ao72 t173.length co72, .slice Ao73 t120.length co73] ?_; (with_reducible refine (laws_eqTaskS.calls kj36 _ _ t173 _ _ t120 false _ ?side1 ?side2 ?side3 ?side4 A67.out).mono ?_); (case side1 => repeat (first | exact (Kd.R_reads' HO175.out).2.2 | (with_reducible refine Kd.C_alloc ?_ _) | (with_reducible refine Kd.C_drewN ?_ _) | (with_reducible refine Kd.C_drew ?_))); (case side2 => exact (Kd.R_reads' HO175.out).2.1); (case side3 => repeat (first | exact (Kd.R_reads' HO_6.out).2.2 | (with_reducible refine Kd.C_alloc ?_ _) | (with_reducible refine Kd.C_drewN ?_ _) | (with_reducible refine Kd.C_drew ?_))); (case side4 => exact (Kd.R_reads' HO_6.out).2.1); rintro e w74 ⟨rfl, hb⟩; refine ⟨_, rfl, ?_⟩; have n0_ := aM (Kd.R_below (rq HO_6) hb); have n1_ := aM (Kd.R_below (rq HO_9) hb); have n2_ := aM (Kd.R_below (rq HO158) hb); have n3_ := aM (Kd.R_below (rq HO175) hb); have n4_ := aM (blk_below (kq BK101) hb); have n5_ := aM (below_step (bq HB) hb); clear HO_6 HO_9 HO158 HO175 BK101 HB; have HO_6 := n0_; have HO_9 := n1_; have HO158 := n2_; have HO175 := n3_; have BK101 := n4_; have HB := n5_; clear n0_ n1_ n2_ n3_ n4_ n5_; (try clear hb); (try clear hb2); (try clear hk); (try clear hi)))
                go_meet
                case rel => exact ⟨_, (true), (by first | rfl | (simp; done) | (simp [*]; done)), H', ⟨by have := HJ11.out; have := HJ36.out; first | omega | exact Nat.le_refl _⟩, ⟨by (with_reducible repeat (first | apply Kd.R_alloc | apply Kd.R_drewN | apply Kd.R_drew)); exact Kd.R_mono HO_9.out (fun _ hk => trivial)⟩, ⟨by (with_reducible repeat (first | apply bkD | apply bkd | apply bkA)); exact BK101.out⟩, ⟨bq HB⟩⟩
              case rest =>
                clear HC59
                try clear c1
                try clear c2
                try clear p2
                try clear c3
                try clear c4
                try clear c4b0
                try clear c5
                try clear c6
                try clear c7
                try clear c8
                try clear c9
                try clear c10
                try clear c11
                try clear c12
                try clear c25
                try clear c32
                try clear c35
                try clear c42
                try clear c42b0
                try clear c44
                try clear c51
                try clear c54
                try clear c54b0
                try clear c55
                try clear c55b0
                try clear c55b1
                try clear c68
                try clear hfz20_0
                try clear p2
                obtain ⟨kq, x95_58, rfl, HA, HJ58, HO_9, BK101, HB⟩ := hcut
                have hl9_58 := (Kd.R_reads' HO_9.out).1
                rw [hl9_58] at HO_9
                (try simp only [hl9_58])
                (try simp only [hl9_58] at BK101)
                cases kq with
                | zero => exact absurd HA.out (by simp [laws_FnExactTaskPut.j2])
                | succ kj58 =>
                  have H := HA.out
                  clear HA
                  simp only [laws_FnExactTaskPut.j2] at H
                  by_cases c75 : x95_58 = true
                  · subst c75
                    have H1 : (some false) = some r := by rw [if_pos rfl] at H; exact H
                    clear H
                    have H := H1
                    clear H1
                    exact absurd ((Option.some.inj H).trans HRT.out) Bool.false_ne_true
                  replace c75 := Bool.eq_false_iff.mpr c75
                  subst c75
                  have H1 : ((laws_heldTaskS.f kj58 t154 1).bind fun t178 => (if t178 < 0 then (some false) else (if t178 = t153 then (some true) else (some false)))) = some r := by rw [if_neg (show ¬ (false = true) by decide)] at H; exact H
                  clear H
                  have H := H1
                  clear H1
                  replace H := Option.bind_eq_some_iff.mp H
                  obtain ⟨t178, A760, H⟩ := H
                  replace H : (if t178 < 0 then (some false) else (if t178 = t153 then (some true) else (some false))) = some r := H
                  have A76 := Aside0.mk A760
                  clear A760
                  by_cases c77 : t178 < 0
                  · rw [if_pos c77] at H
                    have c77b0 : decide (t178 < 0) = true := decide_eq_true c77
                    clear c77
                    exact absurd ((Option.some.inj H).trans HRT.out) Bool.false_ne_true
                  rw [if_neg c77] at H
                  have c77b0 : decide (t178 < 0) = false := decide_eq_false c77
                  clear c77
                  by_cases c78 : t178 = t153
                  · rw [if_pos c78] at H
                    have c78b0 : (t178 == t153) = true := beq_iff_eq.mpr c78
                    have c78b1 : (t178 != t153) = false := bne_eq_false_iff_eq.mpr c78
                    clear c78
                    obtain rfl := Option.some.inj H
                    go_wp2_with (first | ((with_reducible refine gate_callee (f := 12) rfl ?_); refine gL (some 98) Try.func12 #[.slice Ao60 t154.length co60, .int .i64 1] ?_; (with_reducible refine (laws_heldTaskS.calls kj58 _ _ t154 1 t178 _ ?side1 ?side2 A76.out).mono ?_); (case side1 => repeat (first | exact (Kd.R_reads' HO_9.out).2.2 | (with_reducible refine Kd.C_alloc ?_ _) | (with_reducible refine Kd.C_drewN ?_ _) | (with_reducible refine Kd.C_drew ?_))); (case side2 => exact (Kd.R_reads' HO_9.out).2.1); rintro e w' ⟨rfl, ⟨nd, rfl⟩⟩; refine ⟨_, rfl, ?_⟩))
                    all_goals go_ret
                    all_goals exact ⟨by first | rfl | (simp <;> rfl) | (simp [*] <;> rfl), bq HB⟩
                  rw [if_neg c78] at H
                  have c78b0 : (t178 == t153) = false := beq_eq_false_iff_ne.mpr c78
                  have c78b1 : (t178 != t153) = true := bne_iff_ne.mpr c78
                  exact absurd ((Option.some.inj H).trans HRT.out) Bool.false_ne_true
            rw [if_neg c55] at H
            have c55b0 : (t155 == t153) = false := beq_eq_false_iff_ne.mpr c55
            have c55b1 : (t155 != t153) = true := bne_iff_ne.mpr c55
            exact absurd ((Option.some.inj H).trans HRT.out) Bool.false_ne_true
      replace c35 := Bool.eq_false_iff.mpr c35
      subst c35
      have H1 : (some false) = some r := by rw [if_neg (show ¬ (false = true) by decide)] at H; exact H
      clear H
      have H := H1
      clear H1
      exact absurd ((Option.some.inj H).trans HRT.out) Bool.false_ne_true

/-- THE ONE PURE STATEMENT of laws_FnExactTaskPut. -/
def laws_FnExactTaskPut.Pure : Prop := ∀ (l0 : List (S24)) (a1_0 : Int) (a1_1 : Int) (a1_2 : Int) (a1_3 : Int) (a1_4 : Bool) (a1_5 : Int) (a1_6 : Int) (a1_7 : Int) (a1_8 : Int) (a1_9 : Int) (a1_10 : Int) (a1_11 : Int) (a1_12 : Int) (a1_13 : Int), l0.length ≤ maxLen → (∀ x ∈ l0, ok24 x) → ok24 (⟨a1_0, a1_1, a1_2, a1_3, a1_4, a1_5, a1_6, a1_7, a1_8, a1_9, a1_10, a1_11, a1_12, a1_13⟩ : S24) → ∃ k, laws_FnExactTaskPut.f k l0 a1_0 a1_1 a1_2 a1_3 a1_4 a1_5 a1_6 a1_7 a1_8 a1_9 a1_10 a1_11 a1_12 a1_13 = some true
theorem laws_FnExactTaskPut.walk (P : laws_FnExactTaskPut.Pure) (A0 : Option Addr) (c0 : Nat) (l0 : List (S24)) (a1_0 : Int) (a1_1 : Int) (a1_2 : Int) (a1_3 : Int) (a1_4 : Bool) (a1_5 : Int) (a1_6 : Int) (a1_7 : Int) (a1_8 : Int) (a1_9 : Int) (a1_10 : Int) (a1_11 : Int) (a1_12 : Int) (a1_13 : Int) (w : World) (hr0 : Kd.C k24 w A0 l0.length l0) (hc0 : l0.length ≤ c0) (hm0 : l0.length ≤ maxLen) (hg0 : ∀ x ∈ l0, ok24 x) (w1 : ok24 (⟨a1_0, a1_1, a1_2, a1_3, a1_4, a1_5, a1_6, a1_7, a1_8, a1_9, a1_10, a1_11, a1_12, a1_13⟩ : S24)) :
    Calls Try.prog 3 #[.slice A0 l0.length c0, .agg #[.int .i64 a1_0, .int .i64 a1_1, .int .i64 a1_2, .int .i64 a1_3, .bool a1_4, .int .i64 a1_5, .int .i64 a1_6, .int .i64 a1_7, .int .i64 a1_8, .int .i64 a1_9, .int .i64 a1_10, .int .i64 a1_11, .int .i64 a1_12, .int .i64 a1_13]] w fun e w' => e = .returned (.bool true) ∧ Below w.heap.size w w' := by
  obtain ⟨k, h⟩ := P l0 a1_0 a1_1 a1_2 a1_3 a1_4 a1_5 a1_6 a1_7 a1_8 a1_9 a1_10 a1_11 a1_12 a1_13 hm0 hg0 w1
  refine (laws_FnExactTaskPut.calls k A0 c0 l0 a1_0 a1_1 a1_2 a1_3 a1_4 a1_5 a1_6 a1_7 a1_8 a1_9 a1_10 a1_11 a1_12 a1_13 true w hr0 hc0 rfl h).mono ?_
  rintro e w' ⟨rfl, hd⟩
  exact ⟨rfl, hd⟩

end Go.Proofs.Ytbihinhckmfplaa.Print
