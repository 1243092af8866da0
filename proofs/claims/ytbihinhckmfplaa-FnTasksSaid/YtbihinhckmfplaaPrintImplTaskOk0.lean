/- Go functions as plain Lean functions, and that the Go code answers just as these, wherever they answer. Conditions: those of each theorem. Written by a program of this session (wip/patch.py). -/
import Derived.Test.YtbihinhckmfplaaPrint0
import Derived.Test.YtbihinhckmfplaaPrintEq
import Derived.Test.YtbihinhckmfplaaPrintImplIn
namespace Go.Proofs.Ytbihinhckmfplaa.Print
open Go.RowKit Go.Proofs.Ytbihinhckmfplaa.Base Go.Proofs.YtbihinhckmfplaaW.PrintWords Go.Proofs.YtbihinhckmfplaaW.PrintLast Go.Proofs.YtbihinhckmfplaaW.PrintMore
attribute [local go_sem] max2_int min2_int max_two min_two max_three min_three max_four min_four   -- for this text's walks alone
set_option linter.unusedVariables false
set_option linter.unusedSimpArgs false

attribute [local go_sem high] eqA30
/-! ### impl_TaskOk0: function 15 -/
mutual
def impl_TaskOk0.j0 : Nat → Bool → Int → Int → Int → Int → Bool → Int → Int → Int → Int → Int → Int → Int → Int → Int → Option (Bool)
  | 0, _, _, _, _, _, _, _, _, _, _, _, _, _, _, _ => none
  | k + 1, x24, x102000, x102001, x102002, x102003, x102004, x102005, x102006, x102007, x102008, x102009, x102010, x102011, x102012, x102013 => if x24 = true then (some false) else (if x102001 = 1 then (impl_TaskOk0.j1 k x102000 x102001 x102002 x102003 x102004 x102005 x102006 x102007 x102008 x102009 x102010 x102011 x102012 x102013 x102000 x102001 x102002 x102003 x102004 x102005 x102006 x102007 x102008 0 0 0 0 0) else (if x102001 = 2 then (impl_TaskOk0.j2 k x102000 x102001 x102002 x102003 x102004 x102005 x102006 x102007 x102008 x102009 x102010 x102011 x102012 x102013 x102000 x102001 x102002 x102003 x102004 0 0 x102007 0 x102009 x102010 x102011 0 0) else (if x102001 = 3 then (impl_TaskOk0.j3 k x102000 x102001 x102002 x102003 x102004 x102005 x102006 x102007 x102008 x102009 x102010 x102011 x102012 x102013 x102000 x102001 x102002 x102003 x102004 0 0 0 0 0 0 0 x102012 x102013) else (some false))))
def impl_TaskOk0.j1 : Nat → Int → Int → Int → Int → Bool → Int → Int → Int → Int → Int → Int → Int → Int → Int → Int → Int → Int → Int → Bool → Int → Int → Int → Int → Int → Int → Int → Int → Int → Option (Bool)
  | 0, _, _, _, _, _, _, _, _, _, _, _, _, _, _, _, _, _, _, _, _, _, _, _, _, _, _, _, _ => none
  | k + 1, x102000, x102001, x102002, x102003, x102004, x102005, x102006, x102007, x102008, x102009, x102010, x102011, x102012, x102013, x105000, x105001, x105002, x105003, x105004, x105005, x105006, x105007, x105008, x105009, x105010, x105011, x105012, x105013 => (impl_ShareOk.f x102005 x102006).bind fun t105 => (if t105 = true then ((impl_in.f x102007 0 x102005).bind fun t106 => (if t106 = true then ((impl_isUntil.f x102008).bind fun t107 => (if t107 = true then (some (x102000 == x105000 && (x102001 == x105001 && (x102002 == x105002 && (x102003 == x105003 && (x102004 == x105004 && (x102005 == x105005 && (x102006 == x105006 && (x102007 == x105007 && (x102008 == x105008 && (x102009 == x105009 && (x102010 == x105010 && (x102011 == x105011 && (x102012 == x105012 && (x102013 == x105013))))))))))))))) else (some false))) else (some false))) else (some false))
def impl_TaskOk0.j2 : Nat → Int → Int → Int → Int → Bool → Int → Int → Int → Int → Int → Int → Int → Int → Int → Int → Int → Int → Int → Bool → Int → Int → Int → Int → Int → Int → Int → Int → Int → Option (Bool)
  | 0, _, _, _, _, _, _, _, _, _, _, _, _, _, _, _, _, _, _, _, _, _, _, _, _, _, _, _, _ => none
  | k + 1, x102000, x102001, x102002, x102003, x102004, x102005, x102006, x102007, x102008, x102009, x102010, x102011, x102012, x102013, x105000, x105001, x105002, x105003, x105004, x105005, x105006, x105007, x105008, x105009, x105010, x105011, x105012, x105013 => (impl_in.f x102009 1 20).bind fun t108 => (if t108 = true then ((impl_in.f x102010 0 10).bind fun t109 => (if t109 = true then ((impl_in.f x102007 (mn 1 x102010) x102010).bind fun t110 => (if t110 = true then ((impl_isSeq.f x102011).bind fun t111 => (if t111 = true then (some (x102000 == x105000 && (x102001 == x105001 && (x102002 == x105002 && (x102003 == x105003 && (x102004 == x105004 && (x102005 == x105005 && (x102006 == x105006 && (x102007 == x105007 && (x102008 == x105008 && (x102009 == x105009 && (x102010 == x105010 && (x102011 == x105011 && (x102012 == x105012 && (x102013 == x105013))))))))))))))) else (some false))) else (some false))) else (some false))) else (some false))
def impl_TaskOk0.j3 : Nat → Int → Int → Int → Int → Bool → Int → Int → Int → Int → Int → Int → Int → Int → Int → Int → Int → Int → Int → Bool → Int → Int → Int → Int → Int → Int → Int → Int → Int → Option (Bool)
  | 0, _, _, _, _, _, _, _, _, _, _, _, _, _, _, _, _, _, _, _, _, _, _, _, _, _, _, _, _ => none
  | k + 1, x102000, x102001, x102002, x102003, x102004, x102005, x102006, x102007, x102008, x102009, x102010, x102011, x102012, x102013, x105000, x105001, x105002, x105003, x105004, x105005, x105006, x105007, x105008, x105009, x105010, x105011, x105012, x105013 => (impl_NiceOk.f x102012).bind fun t112 => (if t112 = true then ((impl_in.f x102013 0 100000000).bind fun t113 => (if t113 = true then (some (x102000 == x105000 && (x102001 == x105001 && (x102002 == x105002 && (x102003 == x105003 && (x102004 == x105004 && (x102005 == x105005 && (x102006 == x105006 && (x102007 == x105007 && (x102008 == x105008 && (x102009 == x105009 && (x102010 == x105010 && (x102011 == x105011 && (x102012 == x105012 && (x102013 == x105013))))))))))))))) else (some false))) else (some false))
end
def impl_TaskOk0.f (k : Nat) (a0_0 : Int) (a0_1 : Int) (a0_2 : Int) (a0_3 : Int) (a0_4 : Bool) (a0_5 : Int) (a0_6 : Int) (a0_7 : Int) (a0_8 : Int) (a0_9 : Int) (a0_10 : Int) (a0_11 : Int) (a0_12 : Int) (a0_13 : Int) : Option (Bool) := (impl_isNo.f a0_0).bind fun t102 => (if t102 = true then ((impl_in.f a0_2 0 3).bind fun t103 => (if t103 = true then (if a0_3 = 1 then (impl_TaskOk0.j0 k false a0_0 a0_1 a0_2 a0_3 a0_4 a0_5 a0_6 a0_7 a0_8 a0_9 a0_10 a0_11 a0_12 a0_13) else (impl_TaskOk0.j0 k (a0_3 != 2) a0_0 a0_1 a0_2 a0_3 a0_4 a0_5 a0_6 a0_7 a0_8 a0_9 a0_10 a0_11 a0_12 a0_13)) else (impl_TaskOk0.j0 k true a0_0 a0_1 a0_2 a0_3 a0_4 a0_5 a0_6 a0_7 a0_8 a0_9 a0_10 a0_11 a0_12 a0_13))) else (impl_TaskOk0.j0 k true a0_0 a0_1 a0_2 a0_3 a0_4 a0_5 a0_6 a0_7 a0_8 a0_9 a0_10 a0_11 a0_12 a0_13))
theorem impl_TaskOk0.mono_l : ∀ k, (∀ y0 y1 y2 y3 y4 y5 y6 y7 y8 y9 y10 y11 y12 y13 y14, LeO (impl_TaskOk0.j0 k y0 y1 y2 y3 y4 y5 y6 y7 y8 y9 y10 y11 y12 y13 y14) (impl_TaskOk0.j0 (k + 1) y0 y1 y2 y3 y4 y5 y6 y7 y8 y9 y10 y11 y12 y13 y14)) ∧ (∀ y0 y1 y2 y3 y4 y5 y6 y7 y8 y9 y10 y11 y12 y13 y14 y15 y16 y17 y18 y19 y20 y21 y22 y23 y24 y25 y26 y27, LeO (impl_TaskOk0.j1 k y0 y1 y2 y3 y4 y5 y6 y7 y8 y9 y10 y11 y12 y13 y14 y15 y16 y17 y18 y19 y20 y21 y22 y23 y24 y25 y26 y27) (impl_TaskOk0.j1 (k + 1) y0 y1 y2 y3 y4 y5 y6 y7 y8 y9 y10 y11 y12 y13 y14 y15 y16 y17 y18 y19 y20 y21 y22 y23 y24 y25 y26 y27)) ∧ (∀ y0 y1 y2 y3 y4 y5 y6 y7 y8 y9 y10 y11 y12 y13 y14 y15 y16 y17 y18 y19 y20 y21 y22 y23 y24 y25 y26 y27, LeO (impl_TaskOk0.j2 k y0 y1 y2 y3 y4 y5 y6 y7 y8 y9 y10 y11 y12 y13 y14 y15 y16 y17 y18 y19 y20 y21 y22 y23 y24 y25 y26 y27) (impl_TaskOk0.j2 (k + 1) y0 y1 y2 y3 y4 y5 y6 y7 y8 y9 y10 y11 y12 y13 y14 y15 y16 y17 y18 y19 y20 y21 y22 y23 y24 y25 y26 y27)) ∧ (∀ y0 y1 y2 y3 y4 y5 y6 y7 y8 y9 y10 y11 y12 y13 y14 y15 y16 y17 y18 y19 y20 y21 y22 y23 y24 y25 y26 y27, LeO (impl_TaskOk0.j3 k y0 y1 y2 y3 y4 y5 y6 y7 y8 y9 y10 y11 y12 y13 y14 y15 y16 y17 y18 y19 y20 y21 y22 y23 y24 y25 y26 y27) (impl_TaskOk0.j3 (k + 1) y0 y1 y2 y3 y4 y5 y6 y7 y8 y9 y10 y11 y12 y13 y14 y15 y16 y17 y18 y19 y20 y21 y22 y23 y24 y25 y26 y27))
  | 0 => ⟨fun _ _ _ _ _ _ _ _ _ _ _ _ _ _ _ r h => by simp [impl_TaskOk0.j0] at h, fun _ _ _ _ _ _ _ _ _ _ _ _ _ _ _ _ _ _ _ _ _ _ _ _ _ _ _ _ r h => by simp [impl_TaskOk0.j1] at h, fun _ _ _ _ _ _ _ _ _ _ _ _ _ _ _ _ _ _ _ _ _ _ _ _ _ _ _ _ r h => by simp [impl_TaskOk0.j2] at h, fun _ _ _ _ _ _ _ _ _ _ _ _ _ _ _ _ _ _ _ _ _ _ _ _ _ _ _ _ r h => by simp [impl_TaskOk0.j3] at h⟩
  | k + 1 => by
    obtain ⟨ih0, ih1, ih2, ih3⟩ := impl_TaskOk0.mono_l k
    refine ⟨?_, ?_, ?_, ?_⟩
    · intro y0 y1 y2 y3 y4 y5 y6 y7 y8 y9 y10 y11 y12 y13 y14
      unfold impl_TaskOk0.j0
      repeat' first
      | (with_reducible exact ih0 _ _ _ _ _ _ _ _ _ _ _ _ _ _ _)
      | (with_reducible exact ih1 _ _ _ _ _ _ _ _ _ _ _ _ _ _ _ _ _ _ _ _ _ _ _ _ _ _ _ _)
      | (with_reducible exact ih2 _ _ _ _ _ _ _ _ _ _ _ _ _ _ _ _ _ _ _ _ _ _ _ _ _ _ _ _)
      | (with_reducible exact ih3 _ _ _ _ _ _ _ _ _ _ _ _ _ _ _ _ _ _ _ _ _ _ _ _ _ _ _ _)
      | (with_reducible exact LeO.refl _)
      | (with_reducible exact LeO.none _)
      | (with_reducible refine LeO.ite ?_ ?_)
      | (with_reducible refine LeO.bind ?_ (fun _ => ?_))
      | exact ih0 _ _ _ _ _ _ _ _ _ _ _ _ _ _ _
      | exact ih1 _ _ _ _ _ _ _ _ _ _ _ _ _ _ _ _ _ _ _ _ _ _ _ _ _ _ _ _
      | exact ih2 _ _ _ _ _ _ _ _ _ _ _ _ _ _ _ _ _ _ _ _ _ _ _ _ _ _ _ _
      | exact ih3 _ _ _ _ _ _ _ _ _ _ _ _ _ _ _ _ _ _ _ _ _ _ _ _ _ _ _ _
      | exact LeO.none _
      | refine LeO.ite ?_ ?_
      | refine LeO.bind ?_ (fun _ => ?_)
    · intro y0 y1 y2 y3 y4 y5 y6 y7 y8 y9 y10 y11 y12 y13 y14 y15 y16 y17 y18 y19 y20 y21 y22 y23 y24 y25 y26 y27
      unfold impl_TaskOk0.j1
      repeat' first
      | (with_reducible exact ih0 _ _ _ _ _ _ _ _ _ _ _ _ _ _ _)
      | (with_reducible exact ih1 _ _ _ _ _ _ _ _ _ _ _ _ _ _ _ _ _ _ _ _ _ _ _ _ _ _ _ _)
      | (with_reducible exact ih2 _ _ _ _ _ _ _ _ _ _ _ _ _ _ _ _ _ _ _ _ _ _ _ _ _ _ _ _)
      | (with_reducible exact ih3 _ _ _ _ _ _ _ _ _ _ _ _ _ _ _ _ _ _ _ _ _ _ _ _ _ _ _ _)
      | (with_reducible exact LeO.refl _)
      | (with_reducible exact LeO.none _)
      | (with_reducible refine LeO.ite ?_ ?_)
      | (with_reducible refine LeO.bind ?_ (fun _ => ?_))
      | exact ih0 _ _ _ _ _ _ _ _ _ _ _ _ _ _ _
      | exact ih1 _ _ _ _ _ _ _ _ _ _ _ _ _ _ _ _ _ _ _ _ _ _ _ _ _ _ _ _
      | exact ih2 _ _ _ _ _ _ _ _ _ _ _ _ _ _ _ _ _ _ _ _ _ _ _ _ _ _ _ _
      | exact ih3 _ _ _ _ _ _ _ _ _ _ _ _ _ _ _ _ _ _ _ _ _ _ _ _ _ _ _ _
      | exact LeO.none _
      | refine LeO.ite ?_ ?_
      | refine LeO.bind ?_ (fun _ => ?_)
    · intro y0 y1 y2 y3 y4 y5 y6 y7 y8 y9 y10 y11 y12 y13 y14 y15 y16 y17 y18 y19 y20 y21 y22 y23 y24 y25 y26 y27
      unfold impl_TaskOk0.j2
      repeat' first
      | (with_reducible exact ih0 _ _ _ _ _ _ _ _ _ _ _ _ _ _ _)
      | (with_reducible exact ih1 _ _ _ _ _ _ _ _ _ _ _ _ _ _ _ _ _ _ _ _ _ _ _ _ _ _ _ _)
      | (with_reducible exact ih2 _ _ _ _ _ _ _ _ _ _ _ _ _ _ _ _ _ _ _ _ _ _ _ _ _ _ _ _)
      | (with_reducible exact ih3 _ _ _ _ _ _ _ _ _ _ _ _ _ _ _ _ _ _ _ _ _ _ _ _ _ _ _ _)
      | (with_reducible exact LeO.refl _)
      | (with_reducible exact LeO.none _)
      | (with_reducible refine LeO.ite ?_ ?_)
      | (with_reducible refine LeO.bind ?_ (fun _ => ?_))
      | exact ih0 _ _ _ _ _ _ _ _ _ _ _ _ _ _ _
      | exact ih1 _ _ _ _ _ _ _ _ _ _ _ _ _ _ _ _ _ _ _ _ _ _ _ _ _ _ _ _
      | exact ih2 _ _ _ _ _ _ _ _ _ _ _ _ _ _ _ _ _ _ _ _ _ _ _ _ _ _ _ _
      | exact ih3 _ _ _ _ _ _ _ _ _ _ _ _ _ _ _ _ _ _ _ _ _ _ _ _ _ _ _ _
      | exact LeO.none _
      | refine LeO.ite ?_ ?_
      | refine LeO.bind ?_ (fun _ => ?_)
    intro y0 y1 y2 y3 y4 y5 y6 y7 y8 y9 y10 y11 y12 y13 y14 y15 y16 y17 y18 y19 y20 y21 y22 y23 y24 y25 y26 y27
    unfold impl_TaskOk0.j3
    repeat' first
    | (with_reducible exact ih0 _ _ _ _ _ _ _ _ _ _ _ _ _ _ _)
    | (with_reducible exact ih1 _ _ _ _ _ _ _ _ _ _ _ _ _ _ _ _ _ _ _ _ _ _ _ _ _ _ _ _)
    | (with_reducible exact ih2 _ _ _ _ _ _ _ _ _ _ _ _ _ _ _ _ _ _ _ _ _ _ _ _ _ _ _ _)
    | (with_reducible exact ih3 _ _ _ _ _ _ _ _ _ _ _ _ _ _ _ _ _ _ _ _ _ _ _ _ _ _ _ _)
    | (with_reducible exact LeO.refl _)
    | (with_reducible exact LeO.none _)
    | (with_reducible refine LeO.ite ?_ ?_)
    | (with_reducible refine LeO.bind ?_ (fun _ => ?_))
    | exact ih0 _ _ _ _ _ _ _ _ _ _ _ _ _ _ _
    | exact ih1 _ _ _ _ _ _ _ _ _ _ _ _ _ _ _ _ _ _ _ _ _ _ _ _ _ _ _ _
    | exact ih2 _ _ _ _ _ _ _ _ _ _ _ _ _ _ _ _ _ _ _ _ _ _ _ _ _ _ _ _
    | exact ih3 _ _ _ _ _ _ _ _ _ _ _ _ _ _ _ _ _ _ _ _ _ _ _ _ _ _ _ _
    | exact LeO.none _
    | refine LeO.ite ?_ ?_
    | refine LeO.bind ?_ (fun _ => ?_)
theorem impl_TaskOk0.mono : ∀ a0 a1 a2 a3 a4 a5 a6 a7 a8 a9 a10 a11 a12 a13 k, LeO (impl_TaskOk0.f k a0 a1 a2 a3 a4 a5 a6 a7 a8 a9 a10 a11 a12 a13) (impl_TaskOk0.f (k + 1) a0 a1 a2 a3 a4 a5 a6 a7 a8 a9 a10 a11 a12 a13) := by
  intro a0 a1 a2 a3 a4 a5 a6 a7 a8 a9 a10 a11 a12 a13 k
  obtain ⟨ih0, ih1, ih2, ih3⟩ := impl_TaskOk0.mono_l k
  unfold impl_TaskOk0.f
  repeat' first
      | (with_reducible exact ih0 _ _ _ _ _ _ _ _ _ _ _ _ _ _ _)
      | (with_reducible exact ih1 _ _ _ _ _ _ _ _ _ _ _ _ _ _ _ _ _ _ _ _ _ _ _ _ _ _ _ _)
      | (with_reducible exact ih2 _ _ _ _ _ _ _ _ _ _ _ _ _ _ _ _ _ _ _ _ _ _ _ _ _ _ _ _)
      | (with_reducible exact ih3 _ _ _ _ _ _ _ _ _ _ _ _ _ _ _ _ _ _ _ _ _ _ _ _ _ _ _ _)
      | (with_reducible exact LeO.refl _)
      | (with_reducible exact LeO.none _)
      | (with_reducible refine LeO.ite ?_ ?_)
      | (with_reducible refine LeO.bind ?_ (fun _ => ?_))
      | exact ih0 _ _ _ _ _ _ _ _ _ _ _ _ _ _ _
      | exact ih1 _ _ _ _ _ _ _ _ _ _ _ _ _ _ _ _ _ _ _ _ _ _ _ _ _ _ _ _
      | exact ih2 _ _ _ _ _ _ _ _ _ _ _ _ _ _ _ _ _ _ _ _ _ _ _ _ _ _ _ _
      | exact ih3 _ _ _ _ _ _ _ _ _ _ _ _ _ _ _ _ _ _ _ _ _ _ _ _ _ _ _ _
      | exact LeO.none _
      | refine LeO.ite ?_ ?_
      | refine LeO.bind ?_ (fun _ => ?_)
def impl_TaskOk0.T7 : Bool × List (List Nat × List Nat) := (true, [([], []), ([0], [0]), ([], []), ([2], [2]), ([], []), ([4], [4]), ([], []), ([6], [6]), ([0, 1], []), ([8, 1, 0, 1], [1, 8]), ([0, 1, 2, 3, 8, 9], []), ([10, 3, 9, 0, 1, 2, 3, 8, 9], [3, 10]), ([0, 1, 2, 3, 4, 5, 8, 9, 10, 11], []), ([12, 5, 11, 0, 1, 2, 3, 4, 5, 8, 9, 10, 11], [5, 12]), ([0, 1, 2, 3, 4, 5, 6, 7, 8, 9, 10, 11, 12, 13], []), ([14, 7, 13, 0, 1, 2, 3, 4, 5, 6, 7, 8, 9, 10, 11, 12, 13], [7, 14])])
def impl_TaskOk0.B7 : List Nat := [0, 1, 0, 4, 0, 16, 0, 64, 3, 259, 783, 1807, 3903, 7999, 16383, 32767]
theorem impl_TaskOk0.tab7 : rtab .any (opsOf Try.f15 7) = impl_TaskOk0.T7 := by kernel_rfl
theorem impl_TaskOk0.bits7 : waitsOk impl_TaskOk0.T7.2 impl_TaskOk0.B7 = true := by kernel_rfl
def impl_TaskOk0.T10 : Bool × List (List Nat × List Nat) := (true, [([], []), ([0], [0]), ([], []), ([2], [2]), ([], []), ([4], [4]), ([], []), ([6], [6]), ([0, 1], []), ([8, 1, 0, 1], [1, 8]), ([0, 1, 2, 3, 8, 9], []), ([10, 3, 9, 0, 1, 2, 3, 8, 9], [3, 10]), ([0, 1, 2, 3, 4, 5, 8, 9, 10, 11], []), ([12, 5, 11, 0, 1, 2, 3, 4, 5, 8, 9, 10, 11], [5, 12]), ([0, 1, 2, 3, 4, 5, 6, 7, 8, 9, 10, 11, 12, 13], []), ([14, 7, 13, 0, 1, 2, 3, 4, 5, 6, 7, 8, 9, 10, 11, 12, 13], [7, 14])])
def impl_TaskOk0.B10 : List Nat := [0, 1, 0, 4, 0, 16, 0, 64, 3, 259, 783, 1807, 3903, 7999, 16383, 32767]
theorem impl_TaskOk0.tab10 : rtab .any (opsOf Try.f15 10) = impl_TaskOk0.T10 := by kernel_rfl
theorem impl_TaskOk0.bits10 : waitsOk impl_TaskOk0.T10.2 impl_TaskOk0.B10 = true := by kernel_rfl
def impl_TaskOk0.T13 : Bool × List (List Nat × List Nat) := (true, [([], []), ([0], [0]), ([], []), ([2], [2]), ([0, 1], []), ([4, 1, 0, 1], [1, 4]), ([0, 1, 2, 3, 4, 5], []), ([6, 3, 5, 0, 1, 2, 3, 4, 5], [3, 6])])
def impl_TaskOk0.B13 : List Nat := [0, 1, 0, 4, 3, 19, 63, 127]
theorem impl_TaskOk0.tab13 : rtab .any (opsOf Try.f15 13) = impl_TaskOk0.T13 := by kernel_rfl
theorem impl_TaskOk0.bits13 : waitsOk impl_TaskOk0.T13.2 impl_TaskOk0.B13 = true := by kernel_rfl
set_option maxHeartbeats 8000000 in
set_option maxRecDepth 100000 in
theorem impl_TaskOk0.calls (k : Nat) (a0_0 : Int) (a0_1 : Int) (a0_2 : Int) (a0_3 : Int) (a0_4 : Bool) (a0_5 : Int) (a0_6 : Int) (a0_7 : Int) (a0_8 : Int) (a0_9 : Int) (a0_10 : Int) (a0_11 : Int) (a0_12 : Int) (a0_13 : Int) (r : Bool) (w : World) (h : impl_TaskOk0.f k a0_0 a0_1 a0_2 a0_3 a0_4 a0_5 a0_6 a0_7 a0_8 a0_9 a0_10 a0_11 a0_12 a0_13 = some r) :
    Calls Try.prog 15 #[.agg #[.int .i64 a0_0, .int .i64 a0_1, .int .i64 a0_2, .int .i64 a0_3, .bool a0_4, .int .i64 a0_5, .int .i64 a0_6, .int .i64 a0_7, .int .i64 a0_8, .int .i64 a0_9, .int .i64 a0_10, .int .i64 a0_11, .int .i64 a0_12, .int .i64 a0_13]] w fun e w' => e = .returned (.bool r) ∧ Below w.heap.size w w' := by
  have hu30 := Try.underlying30
  have hu52 := Try.underlying52
  have HB := aM (Below.refl w.heap.size w)
  have H : ((impl_isNo.f a0_0).bind fun t102 => (if t102 = true then ((impl_in.f a0_2 0 3).bind fun t103 => (if t103 = true then (if a0_3 = 1 then (impl_TaskOk0.j0 k false a0_0 a0_1 a0_2 a0_3 a0_4 a0_5 a0_6 a0_7 a0_8 a0_9 a0_10 a0_11 a0_12 a0_13) else (impl_TaskOk0.j0 k (a0_3 != 2) a0_0 a0_1 a0_2 a0_3 a0_4 a0_5 a0_6 a0_7 a0_8 a0_9 a0_10 a0_11 a0_12 a0_13)) else (impl_TaskOk0.j0 k true a0_0 a0_1 a0_2 a0_3 a0_4 a0_5 a0_6 a0_7 a0_8 a0_9 a0_10 a0_11 a0_12 a0_13))) else (impl_TaskOk0.j0 k true a0_0 a0_1 a0_2 a0_3 a0_4 a0_5 a0_6 a0_7 a0_8 a0_9 a0_10 a0_11 a0_12 a0_13))) = some r := h
  clear h
  have HC2 := Aside0.mk H
  clear H
  go_enter Try.func15, Try.ntmps15
  go_upto_region 1 with (first | ((with_reducible refine gate_dst (N := 1) rfl ?_); (try (refine gate_guard (by rfl) ?_; dsimp only)); refine box_event ?hg (N := 1) ?hd (cs := tk14 a0_0 a0_1 a0_2 a0_3 a0_4 a0_5 a0_6 a0_7 a0_8 a0_9 a0_10 a0_11 a0_12 a0_13) (t := 30) ?hr ?_; (case hd => rfl); (case hg => rfl); (case hr => first | (go_simp; done) | (go_simp; rfl)); intro gb101 hg w3 hbox hb; have n0_ := aM (below_step (bq HB) hb); have n1_ := aM (hbox); have n2_ := aM ((by rw [hg]; exact (below_size (bq HB)) : w.heap.size ≤ gb101)); have n3_ := n2_; clear HB; have HB := n0_; have BK101 := n1_; have GW101 := n2_; have GE101 := n3_; clear n0_ n1_ n2_ n3_; clear hb hbox hg))
  (try simp only [Act.put, tA, tB, tC])
  go_cut [24] (fun v24 wc => ∃ (kq : Nat) (x24_1 : Bool), v24 = .bool x24_1 ∧ Aside0 (impl_TaskOk0.j0 kq x24_1 a0_0 a0_1 a0_2 a0_3 a0_4 a0_5 a0_6 a0_7 a0_8 a0_9 a0_10 a0_11 a0_12 a0_13 = some r) ∧ Aside0 (kq ≤ k) ∧ Aside0 (wc.heap[gb101]? = some (.cells #[.int .i64 a0_0, .int .i64 a0_1, .int .i64 a0_2, .int .i64 a0_3, .bool a0_4, .int .i64 a0_5, .int .i64 a0_6, .int .i64 a0_7, .int .i64 a0_8, .int .i64 a0_9, .int .i64 a0_10, .int .i64 a0_11, .int .i64 a0_12, .int .i64 a0_13] 30 (0, 0))) ∧ Aside0 (Below w.heap.size w wc))
  case first =>
    have H := HC2.out
    clear HC2
    replace H := Option.bind_eq_some_iff.mp H
    obtain ⟨t102, A40, H⟩ := H
    replace H : (if t102 = true then ((impl_in.f a0_2 0 3).bind fun t103 => (if t103 = true then (if a0_3 = 1 then (impl_TaskOk0.j0 k false a0_0 a0_1 a0_2 a0_3 a0_4 a0_5 a0_6 a0_7 a0_8 a0_9 a0_10 a0_11 a0_12 a0_13) else (impl_TaskOk0.j0 k (a0_3 != 2) a0_0 a0_1 a0_2 a0_3 a0_4 a0_5 a0_6 a0_7 a0_8 a0_9 a0_10 a0_11 a0_12 a0_13)) else (impl_TaskOk0.j0 k true a0_0 a0_1 a0_2 a0_3 a0_4 a0_5 a0_6 a0_7 a0_8 a0_9 a0_10 a0_11 a0_12 a0_13))) else (impl_TaskOk0.j0 k true a0_0 a0_1 a0_2 a0_3 a0_4 a0_5 a0_6 a0_7 a0_8 a0_9 a0_10 a0_11 a0_12 a0_13)) = some r := H
    have A4 := Aside0.mk A40
    clear A40
    by_cases c5 : t102 = true
    · subst c5
      have H1 : ((impl_in.f a0_2 0 3).bind fun t103 => (if t103 = true then (if a0_3 = 1 then (impl_TaskOk0.j0 k false a0_0 a0_1 a0_2 a0_3 a0_4 a0_5 a0_6 a0_7 a0_8 a0_9 a0_10 a0_11 a0_12 a0_13) else (impl_TaskOk0.j0 k (a0_3 != 2) a0_0 a0_1 a0_2 a0_3 a0_4 a0_5 a0_6 a0_7 a0_8 a0_9 a0_10 a0_11 a0_12 a0_13)) else (impl_TaskOk0.j0 k true a0_0 a0_1 a0_2 a0_3 a0_4 a0_5 a0_6 a0_7 a0_8 a0_9 a0_10 a0_11 a0_12 a0_13))) = some r := by rw [if_pos rfl] at H; exact H
      clear H
      have H := H1
      clear H1
      replace H := Option.bind_eq_some_iff.mp H
      obtain ⟨t103, A60, H⟩ := H
      replace H : (if t103 = true then (if a0_3 = 1 then (impl_TaskOk0.j0 k false a0_0 a0_1 a0_2 a0_3 a0_4 a0_5 a0_6 a0_7 a0_8 a0_9 a0_10 a0_11 a0_12 a0_13) else (impl_TaskOk0.j0 k (a0_3 != 2) a0_0 a0_1 a0_2 a0_3 a0_4 a0_5 a0_6 a0_7 a0_8 a0_9 a0_10 a0_11 a0_12 a0_13)) else (impl_TaskOk0.j0 k true a0_0 a0_1 a0_2 a0_3 a0_4 a0_5 a0_6 a0_7 a0_8 a0_9 a0_10 a0_11 a0_12 a0_13)) = some r := H
      have A6 := Aside0.mk A60
      clear A60
      by_cases c7 : t103 = true
      · subst c7
        have H1 : (if a0_3 = 1 then (impl_TaskOk0.j0 k false a0_0 a0_1 a0_2 a0_3 a0_4 a0_5 a0_6 a0_7 a0_8 a0_9 a0_10 a0_11 a0_12 a0_13) else (impl_TaskOk0.j0 k (a0_3 != 2) a0_0 a0_1 a0_2 a0_3 a0_4 a0_5 a0_6 a0_7 a0_8 a0_9 a0_10 a0_11 a0_12 a0_13)) = some r := by rw [if_pos rfl] at H; exact H
        clear H
        have H := H1
        clear H1
        by_cases c8 : a0_3 = 1
        · rw [if_pos c8] at H
          have c8b0 : (a0_3 == 1) = true := beq_iff_eq.mpr c8
          have c8b1 : (a0_3 != 1) = false := bne_eq_false_iff_eq.mpr c8
          clear c8
          (first | rw [c8b0] | (simp only [i64_w, i32_w]; rw [c8b0]) | skip)
          have H' := Aside0.mk H
          clear H
          obtain ⟨_,_,_,_,_,_,_,_,_,_,_,_,_,_⟩ := cz14 BK101.out
          have hfz9_0 := blk_frozen BK101.out
          go_wp2_with (first | ((with_reducible refine gate_callee (f := 26) rfl ?_); refine gL (some 7) Try.func26 #[.int .i64 a0_0] ?_; (with_reducible refine (impl_isNo.calls a0_0 true _ A4.out).mono ?_); rintro e w' ⟨rfl, ⟨nd, rfl⟩⟩; refine ⟨_, rfl, ?_⟩) | (go_at_call 27; (with_reducible refine (impl_in.calls a0_2 0 3 true _ A6.out).mono ?_); rintro e w' ⟨rfl, ⟨nd, rfl⟩⟩))
          go_meet
          case rel => exact ⟨_, (false), (by first | rfl | (simp; done) | (simp [*]; done)), H', ⟨by first | omega | exact Nat.le_refl _⟩, ⟨by (with_reducible repeat (first | apply bkD | apply bkd | apply bkA)); exact BK101.out⟩, ⟨bq HB⟩⟩
        rw [if_neg c8] at H
        have c8b0 : (a0_3 == 1) = false := beq_eq_false_iff_ne.mpr c8
        have c8b1 : (a0_3 != 1) = true := bne_iff_ne.mpr c8
        (first | rw [c8b0] | (simp only [i64_w, i32_w]; rw [c8b0]) | skip)
        have H' := Aside0.mk H
        clear H
        obtain ⟨_,_,_,_,_,_,_,_,_,_,_,_,_,_⟩ := cz14 BK101.out
        have hfz10_0 := blk_frozen BK101.out
        go_wp2_with (first | ((with_reducible refine gate_callee (f := 26) rfl ?_); refine gL (some 7) Try.func26 #[.int .i64 a0_0] ?_; (with_reducible refine (impl_isNo.calls a0_0 true _ A4.out).mono ?_); rintro e w' ⟨rfl, ⟨nd, rfl⟩⟩; refine ⟨_, rfl, ?_⟩) | (go_at_call 27; (with_reducible refine (impl_in.calls a0_2 0 3 true _ A6.out).mono ?_); rintro e w' ⟨rfl, ⟨nd, rfl⟩⟩))
        go_meet
        case rel => exact ⟨_, ((a0_3 != 2)), (by first | rfl | (simp; done) | (simp [*]; done)), H', ⟨by first | omega | exact Nat.le_refl _⟩, ⟨by (with_reducible repeat (first | apply bkD | apply bkd | apply bkA)); exact BK101.out⟩, ⟨bq HB⟩⟩
      replace c7 := Bool.eq_false_iff.mpr c7
      subst c7
      have H1 : (impl_TaskOk0.j0 k true a0_0 a0_1 a0_2 a0_3 a0_4 a0_5 a0_6 a0_7 a0_8 a0_9 a0_10 a0_11 a0_12 a0_13) = some r := by rw [if_neg (show ¬ (false = true) by decide)] at H; exact H
      clear H
      have H := H1
      clear H1
      have H' := Aside0.mk H
      clear H
      obtain ⟨_,_,_,_,_,_,_,_,_,_,_,_,_,_⟩ := cz14 BK101.out
      have hfz11_0 := blk_frozen BK101.out
      go_wp2_with (first | ((with_reducible refine gate_callee (f := 26) rfl ?_); refine gL (some 7) Try.func26 #[.int .i64 a0_0] ?_; (with_reducible refine (impl_isNo.calls a0_0 true _ A4.out).mono ?_); rintro e w' ⟨rfl, ⟨nd, rfl⟩⟩; refine ⟨_, rfl, ?_⟩) | (go_at_call 27; (with_reducible refine (impl_in.calls a0_2 0 3 false _ A6.out).mono ?_); rintro e w' ⟨rfl, ⟨nd, rfl⟩⟩))
      go_meet
      case rel => exact ⟨_, (true), (by first | rfl | (simp; done) | (simp [*]; done)), H', ⟨by first | omega | exact Nat.le_refl _⟩, ⟨by (with_reducible repeat (first | apply bkD | apply bkd | apply bkA)); exact BK101.out⟩, ⟨bq HB⟩⟩
    replace c5 := Bool.eq_false_iff.mpr c5
    subst c5
    have H1 : (impl_TaskOk0.j0 k true a0_0 a0_1 a0_2 a0_3 a0_4 a0_5 a0_6 a0_7 a0_8 a0_9 a0_10 a0_11 a0_12 a0_13) = some r := by rw [if_neg (show ¬ (false = true) by decide)] at H; exact H
    clear H
    have H := H1
    clear H1
    have H' := Aside0.mk H
    clear H
    obtain ⟨_,_,_,_,_,_,_,_,_,_,_,_,_,_⟩ := cz14 BK101.out
    have hfz12_0 := blk_frozen BK101.out
    go_wp2_with (first | ((with_reducible refine gate_callee (f := 26) rfl ?_); refine gL (some 7) Try.func26 #[.int .i64 a0_0] ?_; (with_reducible refine (impl_isNo.calls a0_0 false _ A4.out).mono ?_); rintro e w' ⟨rfl, ⟨nd, rfl⟩⟩; refine ⟨_, rfl, ?_⟩))
    go_meet
    case rel => exact ⟨_, (true), (by first | rfl | (simp; done) | (simp [*]; done)), H', ⟨by first | omega | exact Nat.le_refl _⟩, ⟨by (with_reducible repeat (first | apply bkD | apply bkd | apply bkA)); exact BK101.out⟩, ⟨bq HB⟩⟩
  case rest =>
    clear HC2
    try clear c1
    try clear c2
    try clear p2
    try clear c5
    try clear c7
    try clear c8
    try clear c8b0
    try clear c8b1
    try clear hfz10_0
    try clear hfz11_0
    try clear hfz12_0
    try clear hfz9_0
    obtain ⟨kq, x24_1, rfl, HA, HJ1, BK101, HB⟩ := hcut
    cases kq with
    | zero => exact absurd HA.out (by simp [impl_TaskOk0.j0])
    | succ kj1 =>
      have H := HA.out
      clear HA
      simp only [impl_TaskOk0.j0] at H
      by_cases c13 : x24_1 = true
      · subst c13
        have H1 : (some false) = some r := by rw [if_pos rfl] at H; exact H
        clear H
        have H := H1
        clear H1
        obtain rfl := Option.some.inj H
        go_wp2
        go_ret
        exact ⟨by first | rfl | (simp <;> rfl) | (simp [*] <;> rfl), bq HB⟩
      replace c13 := Bool.eq_false_iff.mpr c13
      subst c13
      have H1 : (if a0_1 = 1 then (impl_TaskOk0.j1 kj1 a0_0 a0_1 a0_2 a0_3 a0_4 a0_5 a0_6 a0_7 a0_8 a0_9 a0_10 a0_11 a0_12 a0_13 a0_0 a0_1 a0_2 a0_3 a0_4 a0_5 a0_6 a0_7 a0_8 0 0 0 0 0) else (if a0_1 = 2 then (impl_TaskOk0.j2 kj1 a0_0 a0_1 a0_2 a0_3 a0_4 a0_5 a0_6 a0_7 a0_8 a0_9 a0_10 a0_11 a0_12 a0_13 a0_0 a0_1 a0_2 a0_3 a0_4 0 0 a0_7 0 a0_9 a0_10 a0_11 0 0) else (if a0_1 = 3 then (impl_TaskOk0.j3 kj1 a0_0 a0_1 a0_2 a0_3 a0_4 a0_5 a0_6 a0_7 a0_8 a0_9 a0_10 a0_11 a0_12 a0_13 a0_0 a0_1 a0_2 a0_3 a0_4 0 0 0 0 0 0 0 a0_12 a0_13) else (some false)))) = some r := by rw [if_neg (show ¬ (false = true) by decide)] at H; exact H
      clear H
      have H := H1
      clear H1
      by_cases c14 : a0_1 = 1
      · rw [if_pos c14] at H
        have c14b0 : (a0_1 == 1) = true := beq_iff_eq.mpr c14
        have c14b1 : (a0_1 != 1) = false := bne_eq_false_iff_eq.mpr c14
        clear c14
        have HC15 := Aside0.mk H
        clear H
        obtain ⟨_,_,_,_,_,_,_,_,_,_,_,_,_,_⟩ := cz14 BK101.out
        have hfz16_0 := blk_frozen BK101.out
        go_upto_region 7 with (first | ((with_reducible refine gate_dst (N := 3) rfl ?_); (try (refine gate_guard (by rfl) ?_; dsimp only)); refine box_event ?hg (N := 3) ?hd (cs := tk14 0 0 0 0 false 0 0 0 0 0 0 0 0 0) (t := 30) ?hr ?_; (case hd => rfl); (case hg => rfl); (case hr => first | (go_simp; done) | (go_simp; rfl)); intro gb104 hg w17 hbox hb; have n0_ := aM (blk_below (kq BK101) hb); have n1_ := aM (below_step (bq HB) hb); have n2_ := aM (hbox); have n3_ := aM ((by rw [hg]; exact (below_size (bq HB)) : w.heap.size ≤ gb104)); have n4_ := n3_; have n5_ := aM ((by rw [hg]; exact Nat.ne_of_lt (blk_lt (kq BK101)) : gb101 ≠ gb104)); have n6_ := aM (n5_.out.symm); clear BK101 HB; have BK101 := n0_; have HB := n1_; have BK104 := n2_; have GW104 := n3_; have GE104 := n4_; have NB101_104 := n5_; have NB104_101 := n6_; clear n0_ n1_ n2_ n3_ n4_ n5_ n6_; clear hb hbox hg; have hnb18 := NB104_101.out; have hnc18 := NB101_104.out; obtain ⟨_,_,_,_,_,_,_,_,_,_,_,_,_,_⟩ := cz14 BK104.out; have hfz19_0 := blk_frozen BK104.out; obtain ⟨_,_,_,_,_,_,_,_,_,_,_,_,_,_⟩ := cz14 BK101.out; have hfz20_0 := blk_frozen BK101.out))
        (try simp only [Act.put, tA, tB, tC])
        go_cut [] (fun wc => ∃ (kq : Nat) (x105005_14 : Int) (x105006_14 : Int) (x105007_14 : Int) (x105008_14 : Int), Aside0 (impl_TaskOk0.j1 kq a0_0 a0_1 a0_2 a0_3 a0_4 a0_5 a0_6 a0_7 a0_8 a0_9 a0_10 a0_11 a0_12 a0_13 a0_0 a0_1 a0_2 a0_3 a0_4 x105005_14 x105006_14 x105007_14 x105008_14 0 0 0 0 0 = some r) ∧ Aside0 (kq ≤ kj1) ∧ Aside0 (wc.heap[gb101]? = some (.cells #[.int .i64 a0_0, .int .i64 a0_1, .int .i64 a0_2, .int .i64 a0_3, .bool a0_4, .int .i64 a0_5, .int .i64 a0_6, .int .i64 a0_7, .int .i64 a0_8, .int .i64 a0_9, .int .i64 a0_10, .int .i64 a0_11, .int .i64 a0_12, .int .i64 a0_13] 30 (0, 0))) ∧ Aside0 (wc.heap[gb104]? = some (.cells #[.int .i64 a0_0, .int .i64 a0_1, .int .i64 a0_2, .int .i64 a0_3, .bool a0_4, .int .i64 x105005_14, .int .i64 x105006_14, .int .i64 x105007_14, .int .i64 x105008_14, .int .i64 0, .int .i64 0, .int .i64 0, .int .i64 0, .int .i64 0] 30 (0, 0))) ∧ Aside0 (Below w.heap.size w wc))
        case first =>
          have H := HC15.out
          clear HC15
          have H' := Aside0.mk H
          clear H
          try go_wp2
          have n0_ : Aside0 (((((((((((((((w17.setCell ⟨gb104, 0, none⟩ (.int .i64 a0_0)).setCell ⟨gb104, 1, none⟩ (.int .i64 a0_1)).setCell ⟨gb104, 2, none⟩ (.int .i64 a0_2)).setCell ⟨gb104, 3, none⟩ (.int .i64 a0_3)).setCell ⟨gb104, 4, none⟩ (.bool a0_4)).setCell ⟨gb104, 5, none⟩ (.int .i64 0)).setCell ⟨gb104, 6, none⟩ (.int .i64 0)).setCell ⟨gb104, 7, none⟩ (.int .i64 0)).setCell ⟨gb104, 8, none⟩ (.int .i64 0)).setCell ⟨gb104, 9, none⟩ (.int .i64 0)).setCell ⟨gb104, 10, none⟩ (.int .i64 0)).setCell ⟨gb104, 11, none⟩ (.int .i64 0)).setCell ⟨gb104, 12, none⟩ (.int .i64 0)).setCell ⟨gb104, 13, none⟩ (.int .i64 0)).heap[gb101]? = some (.cells #[.int .i64 a0_0, .int .i64 a0_1, .int .i64 a0_2, .int .i64 a0_3, .bool a0_4, .int .i64 a0_5, .int .i64 a0_6, .int .i64 a0_7, .int .i64 a0_8, .int .i64 a0_9, .int .i64 a0_10, .int .i64 a0_11, .int .i64 a0_12, .int .i64 a0_13] 30 (0, 0))) := ⟨by refine far14 ?_ NB101_104.out; (with_reducible repeat (first | apply bkD | apply bkd | apply bkA)); exact BK101.out⟩
          have n1_ : Aside0 (((((((((((((((w17.setCell ⟨gb104, 0, none⟩ (.int .i64 a0_0)).setCell ⟨gb104, 1, none⟩ (.int .i64 a0_1)).setCell ⟨gb104, 2, none⟩ (.int .i64 a0_2)).setCell ⟨gb104, 3, none⟩ (.int .i64 a0_3)).setCell ⟨gb104, 4, none⟩ (.bool a0_4)).setCell ⟨gb104, 5, none⟩ (.int .i64 0)).setCell ⟨gb104, 6, none⟩ (.int .i64 0)).setCell ⟨gb104, 7, none⟩ (.int .i64 0)).setCell ⟨gb104, 8, none⟩ (.int .i64 0)).setCell ⟨gb104, 9, none⟩ (.int .i64 0)).setCell ⟨gb104, 10, none⟩ (.int .i64 0)).setCell ⟨gb104, 11, none⟩ (.int .i64 0)).setCell ⟨gb104, 12, none⟩ (.int .i64 0)).setCell ⟨gb104, 13, none⟩ (.int .i64 0)).heap[gb104]? = some (.cells #[.int .i64 a0_0, .int .i64 a0_1, .int .i64 a0_2, .int .i64 a0_3, .bool a0_4, .int .i64 0, .int .i64 0, .int .i64 0, .int .i64 0, .int .i64 0, .int .i64 0, .int .i64 0, .int .i64 0, .int .i64 0] 30 (0, 0))) := ⟨by refine put14 (cs := tk14 0 0 0 0 false 0 0 0 0 0 0 0 0 0) ?_; (with_reducible repeat (first | apply bkD | apply bkd | apply bkA)); exact BK104.out⟩
          have n2_ : Aside0 (Below w.heap.size w ((((((((((((((w17.setCell ⟨gb104, 0, none⟩ (.int .i64 a0_0)).setCell ⟨gb104, 1, none⟩ (.int .i64 a0_1)).setCell ⟨gb104, 2, none⟩ (.int .i64 a0_2)).setCell ⟨gb104, 3, none⟩ (.int .i64 a0_3)).setCell ⟨gb104, 4, none⟩ (.bool a0_4)).setCell ⟨gb104, 5, none⟩ (.int .i64 0)).setCell ⟨gb104, 6, none⟩ (.int .i64 0)).setCell ⟨gb104, 7, none⟩ (.int .i64 0)).setCell ⟨gb104, 8, none⟩ (.int .i64 0)).setCell ⟨gb104, 9, none⟩ (.int .i64 0)).setCell ⟨gb104, 10, none⟩ (.int .i64 0)).setCell ⟨gb104, 11, none⟩ (.int .i64 0)).setCell ⟨gb104, 12, none⟩ (.int .i64 0)).setCell ⟨gb104, 13, none⟩ (.int .i64 0))) := ⟨bq HB⟩
          (try clear BK101)
          (try clear BK104)
          (try clear HB)
          generalize ((((((((((((((w17.setCell ⟨gb104, 0, none⟩ (.int .i64 a0_0)).setCell ⟨gb104, 1, none⟩ (.int .i64 a0_1)).setCell ⟨gb104, 2, none⟩ (.int .i64 a0_2)).setCell ⟨gb104, 3, none⟩ (.int .i64 a0_3)).setCell ⟨gb104, 4, none⟩ (.bool a0_4)).setCell ⟨gb104, 5, none⟩ (.int .i64 0)).setCell ⟨gb104, 6, none⟩ (.int .i64 0)).setCell ⟨gb104, 7, none⟩ (.int .i64 0)).setCell ⟨gb104, 8, none⟩ (.int .i64 0)).setCell ⟨gb104, 9, none⟩ (.int .i64 0)).setCell ⟨gb104, 10, none⟩ (.int .i64 0)).setCell ⟨gb104, 11, none⟩ (.int .i64 0)).setCell ⟨gb104, 12, none⟩ (.int .i64 0)).setCell ⟨gb104, 13, none⟩ (.int .i64 0)) = w21 at n0_ n1_ n2_ ⊢
          have BK101 := n0_
          have BK104 := n1_
          have HB := n2_
          clear n0_ n1_ n2_
          have n0_ := aM (blk_drew BK101.out)
          have n1_ := aM (blk_drew BK104.out)
          have n2_ := aM (below_drew1 HB.out)
          clear BK101 BK104 HB
          have BK101 := n0_
          have BK104 := n1_
          have HB := n2_
          clear n0_ n1_ n2_
          refine start_ (n := 16) (S := fun w' => cb14 w' gb101 (.int .i64 a0_0) (.int .i64 a0_1) (.int .i64 a0_2) (.int .i64 a0_3) (.bool a0_4) (.int .i64 a0_5) (.int .i64 a0_6) (.int .i64 a0_7) (.int .i64 a0_8) (.int .i64 a0_9) (.int .i64 a0_10) (.int .i64 a0_11) (.int .i64 a0_12) (.int .i64 a0_13)) (ds := []) #[nn,nn,nn,nn,nn,nn,nn,nn,nn,nn,nn,nn,nn,nn,nn,nn] (by kernel_rfl) rfl rfl ⟨(blk_cell BK101.out 0).trans rfl, (blk_cell BK101.out 1).trans rfl, (blk_cell BK101.out 2).trans rfl, (blk_cell BK101.out 3).trans rfl, (blk_cell BK101.out 4).trans rfl, (blk_cell BK101.out 5).trans rfl, (blk_cell BK101.out 6).trans rfl, (blk_cell BK101.out 7).trans rfl, (blk_cell BK101.out 8).trans rfl, (blk_cell BK101.out 9).trans rfl, (blk_cell BK101.out 10).trans rfl, (blk_cell BK101.out 11).trans rfl, (blk_cell BK101.out 12).trans rfl, (blk_cell BK101.out 13).trans rfl⟩ (fun hHeld => ?_); refine with_tabW impl_TaskOk0.tab7 impl_TaskOk0.bits7 (fun HT_ HW_ => ?_)
          generalize w21.drew = w22 at BK101 BK104 HB hHeld ⊢
          refine pQ (i := 0) (N := some 40) #[yy,nn,nn,nn,nn,nn,nn,nn,nn,nn,nn,nn,nn,nn,nn,nn] (any_of HT_.out (by kernel_rfl)) ?_
          refine pQ (i := 2) (N := some 42) #[yy,nn,yy,nn,nn,nn,nn,nn,nn,nn,nn,nn,nn,nn,nn,nn] (any_of HT_.out (by kernel_rfl)) ?_
          refine pQ (i := 4) (N := some 44) #[yy,nn,yy,nn,yy,nn,nn,nn,nn,nn,nn,nn,nn,nn,nn,nn] (any_of HT_.out (by kernel_rfl)) ?_
          refine pQ (i := 6) (N := some 46) #[yy,nn,yy,nn,yy,nn,yy,nn,nn,nn,nn,nn,nn,nn,nn,nn] (any_of HT_.out (by kernel_rfl)) ?_
          refine tQ (i := 1) (N := some 41) #[yy,yy,yy,nn,yy,nn,yy,nn,nn,nn,nn,nn,nn,nn,nn,nn] (take_ofW HT_.out HW_.out (by kernel_rfl)) hHeld ?_
          refine pQ (i := 8) (N := some 48) #[yy,yy,yy,nn,yy,nn,yy,nn,yy,nn,nn,nn,nn,nn,nn,nn] (any_of HT_.out (by kernel_rfl)) ?_
          refine tQ (i := 3) (N := some 43) #[yy,yy,yy,yy,yy,nn,yy,nn,yy,nn,nn,nn,nn,nn,nn,nn] (take_ofW HT_.out HW_.out (by kernel_rfl)) hHeld ?_
          refine tQ (i := 5) (N := some 45) #[yy,yy,yy,yy,yy,yy,yy,nn,yy,nn,nn,nn,nn,nn,nn,nn] (take_ofW HT_.out HW_.out (by kernel_rfl)) hHeld ?_
          refine tQ (i := 7) (N := some 47) #[yy,yy,yy,yy,yy,yy,yy,yy,yy,nn,nn,nn,nn,nn,nn,nn] (take_ofW HT_.out HW_.out (by kernel_rfl)) hHeld ?_
          refine one_ (i := 9) (N := none) #[yy,yy,yy,yy,yy,yy,yy,yy,yy,yy,nn,nn,nn,nn,nn,nn] rfl rfl (one_of HT_.out (by kernel_rfl)) (by decide) (fun K hK => ?_)
          have hs23 : w22.cell? ⟨gb104, 5, none⟩ = some (.int .i64 0) := (blk_cell BK104.out 5).trans rfl
          have hfs23 := blk_frozen BK104.out 5
          have hns23_0 := NB101_104.out
          have hms23_0 := NB104_101.out
          refine skip_ (w1 := ?_) (by rfl) rfl ?_ ?_
          rotate_left
          · go_simp
            rfl
          refine hK.out _ _ (fa14 (g := gb104) NB101_104.out hHeld) (fun hHeld => ?_)
          clear hK K
          refine pQ (i := 10) (N := some 49) #[yy,yy,yy,yy,yy,yy,yy,yy,yy,yy,yy,nn,nn,nn,nn,nn] (any_of HT_.out (by kernel_rfl)) ?_
          refine one_ (i := 11) (N := none) #[yy,yy,yy,yy,yy,yy,yy,yy,yy,yy,yy,yy,nn,nn,nn,nn] rfl rfl (one_of HT_.out (by kernel_rfl)) (by decide) (fun K hK => ?_)
          have hs24 : w22.cell? ⟨gb104, 6, none⟩ = some (.int .i64 0) := (blk_cell BK104.out 6).trans rfl
          have hfs24 := blk_frozen BK104.out 6
          have hns24_0 := NB101_104.out
          have hms24_0 := NB104_101.out
          refine skip_ (w1 := ?_) (by rfl) rfl ?_ ?_
          rotate_left
          · go_simp
            rfl
          refine hK.out _ _ (fa14 (g := gb104) NB101_104.out hHeld) (fun hHeld => ?_)
          clear hK K
          refine pQ (i := 12) (N := some 50) #[yy,yy,yy,yy,yy,yy,yy,yy,yy,yy,yy,yy,yy,nn,nn,nn] (any_of HT_.out (by kernel_rfl)) ?_
          refine one_ (i := 13) (N := none) #[yy,yy,yy,yy,yy,yy,yy,yy,yy,yy,yy,yy,yy,yy,nn,nn] rfl rfl (one_of HT_.out (by kernel_rfl)) (by decide) (fun K hK => ?_)
          have hs25 : w22.cell? ⟨gb104, 7, none⟩ = some (.int .i64 0) := (blk_cell BK104.out 7).trans rfl
          have hfs25 := blk_frozen BK104.out 7
          have hns25_0 := NB101_104.out
          have hms25_0 := NB104_101.out
          refine skip_ (w1 := ?_) (by rfl) rfl ?_ ?_
          rotate_left
          · go_simp
            rfl
          refine hK.out _ _ (fa14 (g := gb104) NB101_104.out hHeld) (fun hHeld => ?_)
          clear hK K
          refine pQ (i := 14) (N := some 51) #[yy,yy,yy,yy,yy,yy,yy,yy,yy,yy,yy,yy,yy,yy,yy,nn] (any_of HT_.out (by kernel_rfl)) ?_
          refine one_ (i := 15) (N := none) #[yy,yy,yy,yy,yy,yy,yy,yy,yy,yy,yy,yy,yy,yy,yy,yy] rfl rfl (one_of HT_.out (by kernel_rfl)) (by decide) (fun K hK => ?_)
          have hs26 : w22.cell? ⟨gb104, 8, none⟩ = some (.int .i64 0) := (blk_cell BK104.out 8).trans rfl
          have hfs26 := blk_frozen BK104.out 8
          have hns26_0 := NB101_104.out
          have hms26_0 := NB104_101.out
          refine skip_ (w1 := ?_) (by rfl) rfl ?_ ?_
          rotate_left
          · go_simp
            rfl
          refine hK.out _ _ (fa14 (g := gb104) NB101_104.out hHeld) (fun hHeld => ?_)
          clear hK K
          refine done_ (done_of HT_.out (by kernel_rfl)) ?_
          try go_wp2
          go_meet
          case rel => exact ⟨_, (a0_5), (a0_6), (a0_7), (a0_8), H', ⟨by have := HJ1.out; first | omega | exact Nat.le_refl _⟩, ⟨by (with_reducible repeat (first | apply bkD | apply bkd | apply bkA)); refine blk_far ?_ NB101_104.out _; (with_reducible repeat (first | apply bkD | apply bkd | apply bkA)); refine blk_far ?_ NB101_104.out _; (with_reducible repeat (first | apply bkD | apply bkd | apply bkA)); refine blk_far ?_ NB101_104.out _; (with_reducible repeat (first | apply bkD | apply bkd | apply bkA)); refine blk_far ?_ NB101_104.out _; (with_reducible repeat (first | apply bkD | apply bkd | apply bkA)); exact BK101.out⟩, ⟨by (with_reducible repeat (first | apply bkD | apply bkd | apply bkA)); refine blk_put (cs := tk14 a0_0 a0_1 a0_2 a0_3 a0_4 a0_5 a0_6 a0_7 0 0 0 0 0 0) ?_ 8 _ rfl; (with_reducible repeat (first | apply bkD | apply bkd | apply bkA)); refine blk_put (cs := tk14 a0_0 a0_1 a0_2 a0_3 a0_4 a0_5 a0_6 0 0 0 0 0 0 0) ?_ 7 _ rfl; (with_reducible repeat (first | apply bkD | apply bkd | apply bkA)); refine blk_put (cs := tk14 a0_0 a0_1 a0_2 a0_3 a0_4 a0_5 0 0 0 0 0 0 0 0) ?_ 6 _ rfl; (with_reducible repeat (first | apply bkD | apply bkd | apply bkA)); refine blk_put (cs := tk14 a0_0 a0_1 a0_2 a0_3 a0_4 0 0 0 0 0 0 0 0 0) ?_ 5 _ rfl; (with_reducible repeat (first | apply bkD | apply bkd | apply bkA)); exact BK104.out⟩, ⟨bq HB⟩⟩
        case rest =>
          clear HC15
          try clear c1
          try clear c2
          try clear p2
          try clear c5
          try clear c7
          try clear c8
          try clear c8b0
          try clear c8b1
          try clear c13
          try clear c14
          try clear c14b0
          try clear c14b1
          try clear c15
          try clear c18
          try clear c26
          try clear hfz10_0
          try clear hfz11_0
          try clear hfz12_0
          try clear hfz16_0
          try clear hfz19_0
          try clear hfz20_0
          try clear hfz9_0
          try clear p2
          obtain ⟨kq, x105005_14, x105006_14, x105007_14, x105008_14, HA, HJ14, BK101, BK104, HB⟩ := hcut
          cases kq with
          | zero => exact absurd HA.out (by simp [impl_TaskOk0.j1])
          | succ kj14 =>
            have H := HA.out
            clear HA
            simp only [impl_TaskOk0.j1] at H
            replace H := Option.bind_eq_some_iff.mp H
            obtain ⟨t105, A270, H⟩ := H
            replace H : (if t105 = true then ((impl_in.f a0_7 0 a0_5).bind fun t106 => (if t106 = true then ((impl_isUntil.f a0_8).bind fun t107 => (if t107 = true then (some (a0_0 == a0_0 && (a0_1 == a0_1 && (a0_2 == a0_2 && (a0_3 == a0_3 && (a0_4 == a0_4 && (a0_5 == x105005_14 && (a0_6 == x105006_14 && (a0_7 == x105007_14 && (a0_8 == x105008_14 && (a0_9 == 0 && (a0_10 == 0 && (a0_11 == 0 && (a0_12 == 0 && (a0_13 == 0))))))))))))))) else (some false))) else (some false))) else (some false)) = some r := H
            have A27 := Aside0.mk A270
            clear A270
            by_cases c28 : t105 = true
            · subst c28
              have H1 : ((impl_in.f a0_7 0 a0_5).bind fun t106 => (if t106 = true then ((impl_isUntil.f a0_8).bind fun t107 => (if t107 = true then (some (a0_0 == a0_0 && (a0_1 == a0_1 && (a0_2 == a0_2 && (a0_3 == a0_3 && (a0_4 == a0_4 && (a0_5 == x105005_14 && (a0_6 == x105006_14 && (a0_7 == x105007_14 && (a0_8 == x105008_14 && (a0_9 == 0 && (a0_10 == 0 && (a0_11 == 0 && (a0_12 == 0 && (a0_13 == 0))))))))))))))) else (some false))) else (some false))) = some r := by rw [if_pos rfl] at H; exact H
              clear H
              have H := H1
              clear H1
              replace H := Option.bind_eq_some_iff.mp H
              obtain ⟨t106, A290, H⟩ := H
              replace H : (if t106 = true then ((impl_isUntil.f a0_8).bind fun t107 => (if t107 = true then (some (a0_0 == a0_0 && (a0_1 == a0_1 && (a0_2 == a0_2 && (a0_3 == a0_3 && (a0_4 == a0_4 && (a0_5 == x105005_14 && (a0_6 == x105006_14 && (a0_7 == x105007_14 && (a0_8 == x105008_14 && (a0_9 == 0 && (a0_10 == 0 && (a0_11 == 0 && (a0_12 == 0 && (a0_13 == 0))))))))))))))) else (some false))) else (some false)) = some r := H
              have A29 := Aside0.mk A290
              clear A290
              by_cases c30 : t106 = true
              · subst c30
                have H1 : ((impl_isUntil.f a0_8).bind fun t107 => (if t107 = true then (some (a0_0 == a0_0 && (a0_1 == a0_1 && (a0_2 == a0_2 && (a0_3 == a0_3 && (a0_4 == a0_4 && (a0_5 == x105005_14 && (a0_6 == x105006_14 && (a0_7 == x105007_14 && (a0_8 == x105008_14 && (a0_9 == 0 && (a0_10 == 0 && (a0_11 == 0 && (a0_12 == 0 && (a0_13 == 0))))))))))))))) else (some false))) = some r := by rw [if_pos rfl] at H; exact H
                clear H
                have H := H1
                clear H1
                replace H := Option.bind_eq_some_iff.mp H
                obtain ⟨t107, A310, H⟩ := H
                replace H : (if t107 = true then (some (a0_0 == a0_0 && (a0_1 == a0_1 && (a0_2 == a0_2 && (a0_3 == a0_3 && (a0_4 == a0_4 && (a0_5 == x105005_14 && (a0_6 == x105006_14 && (a0_7 == x105007_14 && (a0_8 == x105008_14 && (a0_9 == 0 && (a0_10 == 0 && (a0_11 == 0 && (a0_12 == 0 && (a0_13 == 0))))))))))))))) else (some false)) = some r := H
                have A31 := Aside0.mk A310
                clear A310
                by_cases c32 : t107 = true
                · subst c32
                  have H1 : (some (a0_0 == a0_0 && (a0_1 == a0_1 && (a0_2 == a0_2 && (a0_3 == a0_3 && (a0_4 == a0_4 && (a0_5 == x105005_14 && (a0_6 == x105006_14 && (a0_7 == x105007_14 && (a0_8 == x105008_14 && (a0_9 == 0 && (a0_10 == 0 && (a0_11 == 0 && (a0_12 == 0 && (a0_13 == 0))))))))))))))) = some r := by rw [if_pos rfl] at H; exact H
                  clear H
                  have H := H1
                  clear H1
                  obtain rfl := Option.some.inj H
                  have hnb33 := NB101_104.out
                  have hnc33 := NB104_101.out
                  obtain ⟨_,_,_,_,_,_,_,_,_,_,_,_,_,_⟩ := cz14 BK101.out
                  have hfz34_0 := blk_frozen BK101.out
                  go_wp2_with (first | ((with_reducible refine gate_callee (f := 28) rfl ?_); refine gL (some 57) Try.func28 #[.agg #[.int .i64 a0_5, .int .i64 a0_6]] ?_; (with_reducible refine (impl_ShareOk.calls a0_5 a0_6 true _ A27.out).mono ?_); rintro e w35 ⟨rfl, hb⟩; refine ⟨_, rfl, ?_⟩; have n0_ := aM (blk_below (kq BK101) hb); have n1_ := aM (blk_below (kq BK104) hb); have n2_ := aM (below_step (bq HB) hb); clear BK101 BK104 HB; have BK101 := n0_; have BK104 := n1_; have HB := n2_; clear n0_ n1_ n2_; (try clear hb); (try clear hb2); (try clear hk); (try clear hi); obtain ⟨_,_,_,_,_,_,_,_,_,_,_,_,_,_⟩ := cz14 BK101.out; have hfz36_0 := blk_frozen BK101.out) | (go_at_call 27; (with_reducible refine (impl_in.calls a0_7 0 a0_5 true _ A29.out).mono ?_); rintro e w' ⟨rfl, ⟨nd, rfl⟩⟩) | (go_at_call 29; (with_reducible refine (impl_isUntil.calls a0_8 true _ A31.out).mono ?_); rintro e w' ⟨rfl, ⟨nd, rfl⟩⟩; obtain ⟨_,_,_,_,_,_,_,_,_,_,_,_,_,_⟩ := cz14 BK104.out; have hfz37_0 := blk_frozen BK104.out))
                  go_ret
                  exact ⟨by first | rfl | (simp <;> rfl) | (simp [*] <;> rfl), bq HB⟩
                replace c32 := Bool.eq_false_iff.mpr c32
                subst c32
                have H1 : (some false) = some r := by rw [if_neg (show ¬ (false = true) by decide)] at H; exact H
                clear H
                have H := H1
                clear H1
                obtain rfl := Option.some.inj H
                have hnb38 := NB101_104.out
                have hnc38 := NB104_101.out
                obtain ⟨_,_,_,_,_,_,_,_,_,_,_,_,_,_⟩ := cz14 BK101.out
                have hfz39_0 := blk_frozen BK101.out
                go_wp2_with (first | ((with_reducible refine gate_callee (f := 28) rfl ?_); refine gL (some 57) Try.func28 #[.agg #[.int .i64 a0_5, .int .i64 a0_6]] ?_; (with_reducible refine (impl_ShareOk.calls a0_5 a0_6 true _ A27.out).mono ?_); rintro e w40 ⟨rfl, hb⟩; refine ⟨_, rfl, ?_⟩; have n0_ := aM (blk_below (kq BK101) hb); have n1_ := aM (blk_below (kq BK104) hb); have n2_ := aM (below_step (bq HB) hb); clear BK101 BK104 HB; have BK101 := n0_; have BK104 := n1_; have HB := n2_; clear n0_ n1_ n2_; (try clear hb); (try clear hb2); (try clear hk); (try clear hi); obtain ⟨_,_,_,_,_,_,_,_,_,_,_,_,_,_⟩ := cz14 BK101.out; have hfz41_0 := blk_frozen BK101.out) | (go_at_call 27; (with_reducible refine (impl_in.calls a0_7 0 a0_5 true _ A29.out).mono ?_); rintro e w' ⟨rfl, ⟨nd, rfl⟩⟩) | (go_at_call 29; (with_reducible refine (impl_isUntil.calls a0_8 false _ A31.out).mono ?_); rintro e w' ⟨rfl, ⟨nd, rfl⟩⟩))
                go_ret
                exact ⟨by first | rfl | (simp <;> rfl) | (simp [*] <;> rfl), bq HB⟩
              replace c30 := Bool.eq_false_iff.mpr c30
              subst c30
              have H1 : (some false) = some r := by rw [if_neg (show ¬ (false = true) by decide)] at H; exact H
              clear H
              have H := H1
              clear H1
              obtain rfl := Option.some.inj H
              have hnb42 := NB101_104.out
              have hnc42 := NB104_101.out
              obtain ⟨_,_,_,_,_,_,_,_,_,_,_,_,_,_⟩ := cz14 BK101.out
              have hfz43_0 := blk_frozen BK101.out
              go_wp2_with (first | ((with_reducible refine gate_callee (f := 28) rfl ?_); refine gL (some 57) Try.func28 #[.agg #[.int .i64 a0_5, .int .i64 a0_6]] ?_; (with_reducible refine (impl_ShareOk.calls a0_5 a0_6 true _ A27.out).mono ?_); rintro e w44 ⟨rfl, hb⟩; refine ⟨_, rfl, ?_⟩; have n0_ := aM (blk_below (kq BK101) hb); have n1_ := aM (blk_below (kq BK104) hb); have n2_ := aM (below_step (bq HB) hb); clear BK101 BK104 HB; have BK101 := n0_; have BK104 := n1_; have HB := n2_; clear n0_ n1_ n2_; (try clear hb); (try clear hb2); (try clear hk); (try clear hi); obtain ⟨_,_,_,_,_,_,_,_,_,_,_,_,_,_⟩ := cz14 BK101.out; have hfz45_0 := blk_frozen BK101.out) | (go_at_call 27; (with_reducible refine (impl_in.calls a0_7 0 a0_5 false _ A29.out).mono ?_); rintro e w' ⟨rfl, ⟨nd, rfl⟩⟩))
              go_ret
              exact ⟨by first | rfl | (simp <;> rfl) | (simp [*] <;> rfl), bq HB⟩
            replace c28 := Bool.eq_false_iff.mpr c28
            subst c28
            have H1 : (some false) = some r := by rw [if_neg (show ¬ (false = true) by decide)] at H; exact H
            clear H
            have H := H1
            clear H1
            obtain rfl := Option.some.inj H
            have hnb46 := NB101_104.out
            have hnc46 := NB104_101.out
            obtain ⟨_,_,_,_,_,_,_,_,_,_,_,_,_,_⟩ := cz14 BK101.out
            have hfz47_0 := blk_frozen BK101.out
            go_wp2_with (first | ((with_reducible refine gate_callee (f := 28) rfl ?_); refine gL (some 57) Try.func28 #[.agg #[.int .i64 a0_5, .int .i64 a0_6]] ?_; (with_reducible refine (impl_ShareOk.calls a0_5 a0_6 false _ A27.out).mono ?_); rintro e w48 ⟨rfl, hb⟩; refine ⟨_, rfl, ?_⟩; have n0_ := aM (blk_below (kq BK101) hb); have n1_ := aM (blk_below (kq BK104) hb); have n2_ := aM (below_step (bq HB) hb); clear BK101 BK104 HB; have BK101 := n0_; have BK104 := n1_; have HB := n2_; clear n0_ n1_ n2_; (try clear hb); (try clear hb2); (try clear hk); (try clear hi)))
            go_ret
            exact ⟨by first | rfl | (simp <;> rfl) | (simp [*] <;> rfl), bq HB⟩
      rw [if_neg c14] at H
      have c14b0 : (a0_1 == 1) = false := beq_eq_false_iff_ne.mpr c14
      have c14b1 : (a0_1 != 1) = true := bne_iff_ne.mpr c14
      by_cases c49 : a0_1 = 2
      · rw [if_pos c49] at H
        have c49b0 : (a0_1 == 2) = true := beq_iff_eq.mpr c49
        have c49b1 : (a0_1 != 2) = false := bne_eq_false_iff_eq.mpr c49
        clear c49
        have HC50 := Aside0.mk H
        clear H
        obtain ⟨_,_,_,_,_,_,_,_,_,_,_,_,_,_⟩ := cz14 BK101.out
        have hfz51_0 := blk_frozen BK101.out
        go_upto_region 10 with (first | ((with_reducible refine gate_dst (N := 3) rfl ?_); (try (refine gate_guard (by rfl) ?_; dsimp only)); refine box_event ?hg (N := 3) ?hd (cs := tk14 0 0 0 0 false 0 0 0 0 0 0 0 0 0) (t := 30) ?hr ?_; (case hd => rfl); (case hg => rfl); (case hr => first | (go_simp; done) | (go_simp; rfl)); intro gb104 hg w52 hbox hb; have n0_ := aM (blk_below (kq BK101) hb); have n1_ := aM (below_step (bq HB) hb); have n2_ := aM (hbox); have n3_ := aM ((by rw [hg]; exact (below_size (bq HB)) : w.heap.size ≤ gb104)); have n4_ := n3_; have n5_ := aM ((by rw [hg]; exact Nat.ne_of_lt (blk_lt (kq BK101)) : gb101 ≠ gb104)); have n6_ := aM (n5_.out.symm); clear BK101 HB; have BK101 := n0_; have HB := n1_; have BK104 := n2_; have GW104 := n3_; have GE104 := n4_; have NB101_104 := n5_; have NB104_101 := n6_; clear n0_ n1_ n2_ n3_ n4_ n5_ n6_; clear hb hbox hg; have hnb53 := NB104_101.out; have hnc53 := NB101_104.out; obtain ⟨_,_,_,_,_,_,_,_,_,_,_,_,_,_⟩ := cz14 BK104.out; have hfz54_0 := blk_frozen BK104.out; obtain ⟨_,_,_,_,_,_,_,_,_,_,_,_,_,_⟩ := cz14 BK101.out; have hfz55_0 := blk_frozen BK101.out))
        (try simp only [Act.put, tA, tB, tC])
        go_cut [] (fun wc => ∃ (kq : Nat) (x105007_49 : Int) (x105009_49 : Int) (x105010_49 : Int) (x105011_49 : Int), Aside0 (impl_TaskOk0.j2 kq a0_0 a0_1 a0_2 a0_3 a0_4 a0_5 a0_6 a0_7 a0_8 a0_9 a0_10 a0_11 a0_12 a0_13 a0_0 a0_1 a0_2 a0_3 a0_4 0 0 x105007_49 0 x105009_49 x105010_49 x105011_49 0 0 = some r) ∧ Aside0 (kq ≤ kj1) ∧ Aside0 (wc.heap[gb101]? = some (.cells #[.int .i64 a0_0, .int .i64 a0_1, .int .i64 a0_2, .int .i64 a0_3, .bool a0_4, .int .i64 a0_5, .int .i64 a0_6, .int .i64 a0_7, .int .i64 a0_8, .int .i64 a0_9, .int .i64 a0_10, .int .i64 a0_11, .int .i64 a0_12, .int .i64 a0_13] 30 (0, 0))) ∧ Aside0 (wc.heap[gb104]? = some (.cells #[.int .i64 a0_0, .int .i64 a0_1, .int .i64 a0_2, .int .i64 a0_3, .bool a0_4, .int .i64 0, .int .i64 0, .int .i64 x105007_49, .int .i64 0, .int .i64 x105009_49, .int .i64 x105010_49, .int .i64 x105011_49, .int .i64 0, .int .i64 0] 30 (0, 0))) ∧ Aside0 (Below w.heap.size w wc))
        case first =>
          have H := HC50.out
          clear HC50
          have H' := Aside0.mk H
          clear H
          try go_wp2
          have n0_ : Aside0 (((((((((((((((w52.setCell ⟨gb104, 0, none⟩ (.int .i64 a0_0)).setCell ⟨gb104, 1, none⟩ (.int .i64 a0_1)).setCell ⟨gb104, 2, none⟩ (.int .i64 a0_2)).setCell ⟨gb104, 3, none⟩ (.int .i64 a0_3)).setCell ⟨gb104, 4, none⟩ (.bool a0_4)).setCell ⟨gb104, 5, none⟩ (.int .i64 0)).setCell ⟨gb104, 6, none⟩ (.int .i64 0)).setCell ⟨gb104, 7, none⟩ (.int .i64 0)).setCell ⟨gb104, 8, none⟩ (.int .i64 0)).setCell ⟨gb104, 9, none⟩ (.int .i64 0)).setCell ⟨gb104, 10, none⟩ (.int .i64 0)).setCell ⟨gb104, 11, none⟩ (.int .i64 0)).setCell ⟨gb104, 12, none⟩ (.int .i64 0)).setCell ⟨gb104, 13, none⟩ (.int .i64 0)).heap[gb101]? = some (.cells #[.int .i64 a0_0, .int .i64 a0_1, .int .i64 a0_2, .int .i64 a0_3, .bool a0_4, .int .i64 a0_5, .int .i64 a0_6, .int .i64 a0_7, .int .i64 a0_8, .int .i64 a0_9, .int .i64 a0_10, .int .i64 a0_11, .int .i64 a0_12, .int .i64 a0_13] 30 (0, 0))) := ⟨by refine far14 ?_ NB101_104.out; (with_reducible repeat (first | apply bkD | apply bkd | apply bkA)); exact BK101.out⟩
          have n1_ : Aside0 (((((((((((((((w52.setCell ⟨gb104, 0, none⟩ (.int .i64 a0_0)).setCell ⟨gb104, 1, none⟩ (.int .i64 a0_1)).setCell ⟨gb104, 2, none⟩ (.int .i64 a0_2)).setCell ⟨gb104, 3, none⟩ (.int .i64 a0_3)).setCell ⟨gb104, 4, none⟩ (.bool a0_4)).setCell ⟨gb104, 5, none⟩ (.int .i64 0)).setCell ⟨gb104, 6, none⟩ (.int .i64 0)).setCell ⟨gb104, 7, none⟩ (.int .i64 0)).setCell ⟨gb104, 8, none⟩ (.int .i64 0)).setCell ⟨gb104, 9, none⟩ (.int .i64 0)).setCell ⟨gb104, 10, none⟩ (.int .i64 0)).setCell ⟨gb104, 11, none⟩ (.int .i64 0)).setCell ⟨gb104, 12, none⟩ (.int .i64 0)).setCell ⟨gb104, 13, none⟩ (.int .i64 0)).heap[gb104]? = some (.cells #[.int .i64 a0_0, .int .i64 a0_1, .int .i64 a0_2, .int .i64 a0_3, .bool a0_4, .int .i64 0, .int .i64 0, .int .i64 0, .int .i64 0, .int .i64 0, .int .i64 0, .int .i64 0, .int .i64 0, .int .i64 0] 30 (0, 0))) := ⟨by refine put14 (cs := tk14 0 0 0 0 false 0 0 0 0 0 0 0 0 0) ?_; (with_reducible repeat (first | apply bkD | apply bkd | apply bkA)); exact BK104.out⟩
          have n2_ : Aside0 (Below w.heap.size w ((((((((((((((w52.setCell ⟨gb104, 0, none⟩ (.int .i64 a0_0)).setCell ⟨gb104, 1, none⟩ (.int .i64 a0_1)).setCell ⟨gb104, 2, none⟩ (.int .i64 a0_2)).setCell ⟨gb104, 3, none⟩ (.int .i64 a0_3)).setCell ⟨gb104, 4, none⟩ (.bool a0_4)).setCell ⟨gb104, 5, none⟩ (.int .i64 0)).setCell ⟨gb104, 6, none⟩ (.int .i64 0)).setCell ⟨gb104, 7, none⟩ (.int .i64 0)).setCell ⟨gb104, 8, none⟩ (.int .i64 0)).setCell ⟨gb104, 9, none⟩ (.int .i64 0)).setCell ⟨gb104, 10, none⟩ (.int .i64 0)).setCell ⟨gb104, 11, none⟩ (.int .i64 0)).setCell ⟨gb104, 12, none⟩ (.int .i64 0)).setCell ⟨gb104, 13, none⟩ (.int .i64 0))) := ⟨bq HB⟩
          (try clear BK101)
          (try clear BK104)
          (try clear HB)
          generalize ((((((((((((((w52.setCell ⟨gb104, 0, none⟩ (.int .i64 a0_0)).setCell ⟨gb104, 1, none⟩ (.int .i64 a0_1)).setCell ⟨gb104, 2, none⟩ (.int .i64 a0_2)).setCell ⟨gb104, 3, none⟩ (.int .i64 a0_3)).setCell ⟨gb104, 4, none⟩ (.bool a0_4)).setCell ⟨gb104, 5, none⟩ (.int .i64 0)).setCell ⟨gb104, 6, none⟩ (.int .i64 0)).setCell ⟨gb104, 7, none⟩ (.int .i64 0)).setCell ⟨gb104, 8, none⟩ (.int .i64 0)).setCell ⟨gb104, 9, none⟩ (.int .i64 0)).setCell ⟨gb104, 10, none⟩ (.int .i64 0)).setCell ⟨gb104, 11, none⟩ (.int .i64 0)).setCell ⟨gb104, 12, none⟩ (.int .i64 0)).setCell ⟨gb104, 13, none⟩ (.int .i64 0)) = w56 at n0_ n1_ n2_ ⊢
          have BK101 := n0_
          have BK104 := n1_
          have HB := n2_
          clear n0_ n1_ n2_
          have n0_ := aM (blk_drew BK101.out)
          have n1_ := aM (blk_drew BK104.out)
          have n2_ := aM (below_drew1 HB.out)
          clear BK101 BK104 HB
          have BK101 := n0_
          have BK104 := n1_
          have HB := n2_
          clear n0_ n1_ n2_
          refine start_ (n := 16) (S := fun w' => cb14 w' gb101 (.int .i64 a0_0) (.int .i64 a0_1) (.int .i64 a0_2) (.int .i64 a0_3) (.bool a0_4) (.int .i64 a0_5) (.int .i64 a0_6) (.int .i64 a0_7) (.int .i64 a0_8) (.int .i64 a0_9) (.int .i64 a0_10) (.int .i64 a0_11) (.int .i64 a0_12) (.int .i64 a0_13)) (ds := []) #[nn,nn,nn,nn,nn,nn,nn,nn,nn,nn,nn,nn,nn,nn,nn,nn] (by kernel_rfl) rfl rfl ⟨(blk_cell BK101.out 0).trans rfl, (blk_cell BK101.out 1).trans rfl, (blk_cell BK101.out 2).trans rfl, (blk_cell BK101.out 3).trans rfl, (blk_cell BK101.out 4).trans rfl, (blk_cell BK101.out 5).trans rfl, (blk_cell BK101.out 6).trans rfl, (blk_cell BK101.out 7).trans rfl, (blk_cell BK101.out 8).trans rfl, (blk_cell BK101.out 9).trans rfl, (blk_cell BK101.out 10).trans rfl, (blk_cell BK101.out 11).trans rfl, (blk_cell BK101.out 12).trans rfl, (blk_cell BK101.out 13).trans rfl⟩ (fun hHeld => ?_); refine with_tabW impl_TaskOk0.tab10 impl_TaskOk0.bits10 (fun HT_ HW_ => ?_)
          generalize w56.drew = w57 at BK101 BK104 HB hHeld ⊢
          refine pQ (i := 0) (N := some 72) #[yy,nn,nn,nn,nn,nn,nn,nn,nn,nn,nn,nn,nn,nn,nn,nn] (any_of HT_.out (by kernel_rfl)) ?_
          refine pQ (i := 2) (N := some 74) #[yy,nn,yy,nn,nn,nn,nn,nn,nn,nn,nn,nn,nn,nn,nn,nn] (any_of HT_.out (by kernel_rfl)) ?_
          refine pQ (i := 4) (N := some 76) #[yy,nn,yy,nn,yy,nn,nn,nn,nn,nn,nn,nn,nn,nn,nn,nn] (any_of HT_.out (by kernel_rfl)) ?_
          refine pQ (i := 6) (N := some 78) #[yy,nn,yy,nn,yy,nn,yy,nn,nn,nn,nn,nn,nn,nn,nn,nn] (any_of HT_.out (by kernel_rfl)) ?_
          refine tQ (i := 1) (N := some 73) #[yy,yy,yy,nn,yy,nn,yy,nn,nn,nn,nn,nn,nn,nn,nn,nn] (take_ofW HT_.out HW_.out (by kernel_rfl)) hHeld ?_
          refine pQ (i := 8) (N := some 80) #[yy,yy,yy,nn,yy,nn,yy,nn,yy,nn,nn,nn,nn,nn,nn,nn] (any_of HT_.out (by kernel_rfl)) ?_
          refine tQ (i := 3) (N := some 75) #[yy,yy,yy,yy,yy,nn,yy,nn,yy,nn,nn,nn,nn,nn,nn,nn] (take_ofW HT_.out HW_.out (by kernel_rfl)) hHeld ?_
          refine tQ (i := 5) (N := some 77) #[yy,yy,yy,yy,yy,yy,yy,nn,yy,nn,nn,nn,nn,nn,nn,nn] (take_ofW HT_.out HW_.out (by kernel_rfl)) hHeld ?_
          refine tQ (i := 7) (N := some 79) #[yy,yy,yy,yy,yy,yy,yy,yy,yy,nn,nn,nn,nn,nn,nn,nn] (take_ofW HT_.out HW_.out (by kernel_rfl)) hHeld ?_
          refine one_ (i := 9) (N := none) #[yy,yy,yy,yy,yy,yy,yy,yy,yy,yy,nn,nn,nn,nn,nn,nn] rfl rfl (one_of HT_.out (by kernel_rfl)) (by decide) (fun K hK => ?_)
          have hs58 : w57.cell? ⟨gb104, 9, none⟩ = some (.int .i64 0) := (blk_cell BK104.out 9).trans rfl
          have hfs58 := blk_frozen BK104.out 9
          have hns58_0 := NB101_104.out
          have hms58_0 := NB104_101.out
          refine skip_ (w1 := ?_) (by rfl) rfl ?_ ?_
          rotate_left
          · go_simp
            rfl
          refine hK.out _ _ (fa14 (g := gb104) NB101_104.out hHeld) (fun hHeld => ?_)
          clear hK K
          refine pQ (i := 10) (N := some 81) #[yy,yy,yy,yy,yy,yy,yy,yy,yy,yy,yy,nn,nn,nn,nn,nn] (any_of HT_.out (by kernel_rfl)) ?_
          refine one_ (i := 11) (N := none) #[yy,yy,yy,yy,yy,yy,yy,yy,yy,yy,yy,yy,nn,nn,nn,nn] rfl rfl (one_of HT_.out (by kernel_rfl)) (by decide) (fun K hK => ?_)
          have hs59 : w57.cell? ⟨gb104, 10, none⟩ = some (.int .i64 0) := (blk_cell BK104.out 10).trans rfl
          have hfs59 := blk_frozen BK104.out 10
          have hns59_0 := NB101_104.out
          have hms59_0 := NB104_101.out
          refine skip_ (w1 := ?_) (by rfl) rfl ?_ ?_
          rotate_left
          · go_simp
            rfl
          refine hK.out _ _ (fa14 (g := gb104) NB101_104.out hHeld) (fun hHeld => ?_)
          clear hK K
          refine pQ (i := 12) (N := some 82) #[yy,yy,yy,yy,yy,yy,yy,yy,yy,yy,yy,yy,yy,nn,nn,nn] (any_of HT_.out (by kernel_rfl)) ?_
          refine one_ (i := 13) (N := none) #[yy,yy,yy,yy,yy,yy,yy,yy,yy,yy,yy,yy,yy,yy,nn,nn] rfl rfl (one_of HT_.out (by kernel_rfl)) (by decide) (fun K hK => ?_)
          have hs60 : w57.cell? ⟨gb104, 7, none⟩ = some (.int .i64 0) := (blk_cell BK104.out 7).trans rfl
          have hfs60 := blk_frozen BK104.out 7
          have hns60_0 := NB101_104.out
          have hms60_0 := NB104_101.out
          refine skip_ (w1 := ?_) (by rfl) rfl ?_ ?_
          rotate_left
          · go_simp
            rfl
          refine hK.out _ _ (fa14 (g := gb104) NB101_104.out hHeld) (fun hHeld => ?_)
          clear hK K
          refine pQ (i := 14) (N := some 83) #[yy,yy,yy,yy,yy,yy,yy,yy,yy,yy,yy,yy,yy,yy,yy,nn] (any_of HT_.out (by kernel_rfl)) ?_
          refine one_ (i := 15) (N := none) #[yy,yy,yy,yy,yy,yy,yy,yy,yy,yy,yy,yy,yy,yy,yy,yy] rfl rfl (one_of HT_.out (by kernel_rfl)) (by decide) (fun K hK => ?_)
          have hs61 : w57.cell? ⟨gb104, 11, none⟩ = some (.int .i64 0) := (blk_cell BK104.out 11).trans rfl
          have hfs61 := blk_frozen BK104.out 11
          have hns61_0 := NB101_104.out
          have hms61_0 := NB104_101.out
          refine skip_ (w1 := ?_) (by rfl) rfl ?_ ?_
          rotate_left
          · go_simp
            rfl
          refine hK.out _ _ (fa14 (g := gb104) NB101_104.out hHeld) (fun hHeld => ?_)
          clear hK K
          refine done_ (done_of HT_.out (by kernel_rfl)) ?_
          try go_wp2
          go_meet
          case rel => exact ⟨_, (a0_7), (a0_9), (a0_10), (a0_11), H', ⟨by have := HJ1.out; first | omega | exact Nat.le_refl _⟩, ⟨by (with_reducible repeat (first | apply bkD | apply bkd | apply bkA)); refine blk_far ?_ NB101_104.out _; (with_reducible repeat (first | apply bkD | apply bkd | apply bkA)); refine blk_far ?_ NB101_104.out _; (with_reducible repeat (first | apply bkD | apply bkd | apply bkA)); refine blk_far ?_ NB101_104.out _; (with_reducible repeat (first | apply bkD | apply bkd | apply bkA)); refine blk_far ?_ NB101_104.out _; (with_reducible repeat (first | apply bkD | apply bkd | apply bkA)); exact BK101.out⟩, ⟨by (with_reducible repeat (first | apply bkD | apply bkd | apply bkA)); refine blk_put (cs := tk14 a0_0 a0_1 a0_2 a0_3 a0_4 0 0 a0_7 0 a0_9 a0_10 0 0 0) ?_ 11 _ rfl; (with_reducible repeat (first | apply bkD | apply bkd | apply bkA)); refine blk_put (cs := tk14 a0_0 a0_1 a0_2 a0_3 a0_4 0 0 0 0 a0_9 a0_10 0 0 0) ?_ 7 _ rfl; (with_reducible repeat (first | apply bkD | apply bkd | apply bkA)); refine blk_put (cs := tk14 a0_0 a0_1 a0_2 a0_3 a0_4 0 0 0 0 a0_9 0 0 0 0) ?_ 10 _ rfl; (with_reducible repeat (first | apply bkD | apply bkd | apply bkA)); refine blk_put (cs := tk14 a0_0 a0_1 a0_2 a0_3 a0_4 0 0 0 0 0 0 0 0 0) ?_ 9 _ rfl; (with_reducible repeat (first | apply bkD | apply bkd | apply bkA)); exact BK104.out⟩, ⟨bq HB⟩⟩
        case rest =>
          clear HC50
          try clear c1
          try clear c2
          try clear p2
          try clear c3
          try clear c4
          try clear c5
          try clear c14
          try clear c14b0
          try clear c14b1
          try clear c28
          try clear c30
          try clear c32
          try clear c33
          try clear c38
          try clear c42
          try clear c46
          try clear c49
          try clear c49b0
          try clear c49b1
          try clear c53
          try clear hfz10_0
          try clear hfz11_0
          try clear hfz12_0
          try clear hfz16_0
          try clear hfz19_0
          try clear hfz20_0
          try clear hfz34_0
          try clear hfz36_0
          try clear hfz37_0
          try clear hfz39_0
          try clear hfz41_0
          try clear hfz43_0
          try clear hfz45_0
          try clear hfz47_0
          try clear hfz51_0
          try clear hfz54_0
          try clear hfz55_0
          try clear hfz9_0
          try clear p2
          obtain ⟨kq, x105007_49, x105009_49, x105010_49, x105011_49, HA, HJ49, BK101, BK104, HB⟩ := hcut
          cases kq with
          | zero => exact absurd HA.out (by simp [impl_TaskOk0.j2])
          | succ kj49 =>
            have H := HA.out
            clear HA
            simp only [impl_TaskOk0.j2] at H
            replace H := Option.bind_eq_some_iff.mp H
            obtain ⟨t108, A620, H⟩ := H
            replace H : (if t108 = true then ((impl_in.f a0_10 0 10).bind fun t109 => (if t109 = true then ((impl_in.f a0_7 (mn 1 a0_10) a0_10).bind fun t110 => (if t110 = true then ((impl_isSeq.f a0_11).bind fun t111 => (if t111 = true then (some (a0_0 == a0_0 && (a0_1 == a0_1 && (a0_2 == a0_2 && (a0_3 == a0_3 && (a0_4 == a0_4 && (a0_5 == 0 && (a0_6 == 0 && (a0_7 == x105007_49 && (a0_8 == 0 && (a0_9 == x105009_49 && (a0_10 == x105010_49 && (a0_11 == x105011_49 && (a0_12 == 0 && (a0_13 == 0))))))))))))))) else (some false))) else (some false))) else (some false))) else (some false)) = some r := H
            have A62 := Aside0.mk A620
            clear A620
            by_cases c63 : t108 = true
            · subst c63
              have H1 : ((impl_in.f a0_10 0 10).bind fun t109 => (if t109 = true then ((impl_in.f a0_7 (mn 1 a0_10) a0_10).bind fun t110 => (if t110 = true then ((impl_isSeq.f a0_11).bind fun t111 => (if t111 = true then (some (a0_0 == a0_0 && (a0_1 == a0_1 && (a0_2 == a0_2 && (a0_3 == a0_3 && (a0_4 == a0_4 && (a0_5 == 0 && (a0_6 == 0 && (a0_7 == x105007_49 && (a0_8 == 0 && (a0_9 == x105009_49 && (a0_10 == x105010_49 && (a0_11 == x105011_49 && (a0_12 == 0 && (a0_13 == 0))))))))))))))) else (some false))) else (some false))) else (some false))) = some r := by rw [if_pos rfl] at H; exact H
              clear H
              have H := H1
              clear H1
              replace H := Option.bind_eq_some_iff.mp H
              obtain ⟨t109, A640, H⟩ := H
              replace H : (if t109 = true then ((impl_in.f a0_7 (mn 1 a0_10) a0_10).bind fun t110 => (if t110 = true then ((impl_isSeq.f a0_11).bind fun t111 => (if t111 = true then (some (a0_0 == a0_0 && (a0_1 == a0_1 && (a0_2 == a0_2 && (a0_3 == a0_3 && (a0_4 == a0_4 && (a0_5 == 0 && (a0_6 == 0 && (a0_7 == x105007_49 && (a0_8 == 0 && (a0_9 == x105009_49 && (a0_10 == x105010_49 && (a0_11 == x105011_49 && (a0_12 == 0 && (a0_13 == 0))))))))))))))) else (some false))) else (some false))) else (some false)) = some r := H
              have A64 := Aside0.mk A640
              clear A640
              by_cases c65 : t109 = true
              · subst c65
                have H1 : ((impl_in.f a0_7 (mn 1 a0_10) a0_10).bind fun t110 => (if t110 = true then ((impl_isSeq.f a0_11).bind fun t111 => (if t111 = true then (some (a0_0 == a0_0 && (a0_1 == a0_1 && (a0_2 == a0_2 && (a0_3 == a0_3 && (a0_4 == a0_4 && (a0_5 == 0 && (a0_6 == 0 && (a0_7 == x105007_49 && (a0_8 == 0 && (a0_9 == x105009_49 && (a0_10 == x105010_49 && (a0_11 == x105011_49 && (a0_12 == 0 && (a0_13 == 0))))))))))))))) else (some false))) else (some false))) = some r := by rw [if_pos rfl] at H; exact H
                clear H
                have H := H1
                clear H1
                obtain ⟨ji66, hji66⟩ : ∃ j_ : Int, (mn 1 a0_10) = j_ := ⟨_, rfl⟩
                replace H : ((impl_in.f a0_7 (ji66) a0_10).bind fun t110 => (if t110 = true then ((impl_isSeq.f a0_11).bind fun t111 => (if t111 = true then (some (a0_0 == a0_0 && (a0_1 == a0_1 && (a0_2 == a0_2 && (a0_3 == a0_3 && (a0_4 == a0_4 && (a0_5 == 0 && (a0_6 == 0 && (a0_7 == x105007_49 && (a0_8 == 0 && (a0_9 == x105009_49 && (a0_10 == x105010_49 && (a0_11 == x105011_49 && (a0_12 == 0 && (a0_13 == 0))))))))))))))) else (some false))) else (some false))) = some r := by first | (rw [hji66] at H; exact H) | (simp only [hji66] at H ⊢; exact H)
                (try rw [hji66] at A62)
                (try rw [hji66] at A64)
                have hji66_ : (if a0_10 < 1 then a0_10 else 1) = ji66 := hji66
                replace H := Option.bind_eq_some_iff.mp H
                obtain ⟨t110, A670, H⟩ := H
                replace H : (if t110 = true then ((impl_isSeq.f a0_11).bind fun t111 => (if t111 = true then (some (a0_0 == a0_0 && (a0_1 == a0_1 && (a0_2 == a0_2 && (a0_3 == a0_3 && (a0_4 == a0_4 && (a0_5 == 0 && (a0_6 == 0 && (a0_7 == x105007_49 && (a0_8 == 0 && (a0_9 == x105009_49 && (a0_10 == x105010_49 && (a0_11 == x105011_49 && (a0_12 == 0 && (a0_13 == 0))))))))))))))) else (some false))) else (some false)) = some r := H
                have A67 := Aside0.mk A670
                clear A670
                by_cases c68 : t110 = true
                · subst c68
                  have H1 : ((impl_isSeq.f a0_11).bind fun t111 => (if t111 = true then (some (a0_0 == a0_0 && (a0_1 == a0_1 && (a0_2 == a0_2 && (a0_3 == a0_3 && (a0_4 == a0_4 && (a0_5 == 0 && (a0_6 == 0 && (a0_7 == x105007_49 && (a0_8 == 0 && (a0_9 == x105009_49 && (a0_10 == x105010_49 && (a0_11 == x105011_49 && (a0_12 == 0 && (a0_13 == 0))))))))))))))) else (some false))) = some r := by rw [if_pos rfl] at H; exact H
                  clear H
                  have H := H1
                  clear H1
                  replace H := Option.bind_eq_some_iff.mp H
                  obtain ⟨t111, A690, H⟩ := H
                  replace H : (if t111 = true then (some (a0_0 == a0_0 && (a0_1 == a0_1 && (a0_2 == a0_2 && (a0_3 == a0_3 && (a0_4 == a0_4 && (a0_5 == 0 && (a0_6 == 0 && (a0_7 == x105007_49 && (a0_8 == 0 && (a0_9 == x105009_49 && (a0_10 == x105010_49 && (a0_11 == x105011_49 && (a0_12 == 0 && (a0_13 == 0))))))))))))))) else (some false)) = some r := H
                  have A69 := Aside0.mk A690
                  clear A690
                  by_cases c70 : t111 = true
                  · subst c70
                    have H1 : (some (a0_0 == a0_0 && (a0_1 == a0_1 && (a0_2 == a0_2 && (a0_3 == a0_3 && (a0_4 == a0_4 && (a0_5 == 0 && (a0_6 == 0 && (a0_7 == x105007_49 && (a0_8 == 0 && (a0_9 == x105009_49 && (a0_10 == x105010_49 && (a0_11 == x105011_49 && (a0_12 == 0 && (a0_13 == 0))))))))))))))) = some r := by rw [if_pos rfl] at H; exact H
                    clear H
                    have H := H1
                    clear H1
                    obtain rfl := Option.some.inj H
                    have hnb71 := NB101_104.out
                    have hnc71 := NB104_101.out
                    obtain ⟨_,_,_,_,_,_,_,_,_,_,_,_,_,_⟩ := cz14 BK101.out
                    have hfz72_0 := blk_frozen BK101.out
                    go_wp2_with (first | ((with_reducible refine gate_callee (f := 27) rfl ?_); refine gL (some 86) Try.func27 #[.int .i64 a0_9, .int .i64 1, .int .i64 20] ?_; (with_reducible refine (impl_in.calls a0_9 1 20 true _ A62.out).mono ?_); rintro e w' ⟨rfl, ⟨nd, rfl⟩⟩; refine ⟨_, rfl, ?_⟩) | (go_at_call 27; (with_reducible refine (impl_in.calls a0_10 0 10 true _ A64.out).mono ?_); rintro e w' ⟨rfl, ⟨nd, rfl⟩⟩) | (go_at_call 27; (with_reducible refine (impl_in.calls a0_7 ji66 a0_10 true _ A67.out).mono ?_); rintro e w' ⟨rfl, ⟨nd, rfl⟩⟩) | (go_at_call 30; (with_reducible refine (impl_isSeq.calls a0_11 true _ A69.out).mono ?_); rintro e w' ⟨rfl, ⟨nd, rfl⟩⟩; obtain ⟨_,_,_,_,_,_,_,_,_,_,_,_,_,_⟩ := cz14 BK104.out; have hfz73_0 := blk_frozen BK104.out))
                    go_ret
                    exact ⟨by first | rfl | (simp [errW_none, errW_some] <;> rfl) | (simp only [← hji66]; first | rfl | (simp [errW_none, errW_some] <;> rfl)) | (simp [*, errW_none, errW_some] <;> rfl), bq HB⟩
                  replace c70 := Bool.eq_false_iff.mpr c70
                  subst c70
                  have H1 : (some false) = some r := by rw [if_neg (show ¬ (false = true) by decide)] at H; exact H
                  clear H
                  have H := H1
                  clear H1
                  obtain rfl := Option.some.inj H
                  have hnb74 := NB101_104.out
                  have hnc74 := NB104_101.out
                  obtain ⟨_,_,_,_,_,_,_,_,_,_,_,_,_,_⟩ := cz14 BK101.out
                  have hfz75_0 := blk_frozen BK101.out
                  go_wp2_with (first | ((with_reducible refine gate_callee (f := 27) rfl ?_); refine gL (some 86) Try.func27 #[.int .i64 a0_9, .int .i64 1, .int .i64 20] ?_; (with_reducible refine (impl_in.calls a0_9 1 20 true _ A62.out).mono ?_); rintro e w' ⟨rfl, ⟨nd, rfl⟩⟩; refine ⟨_, rfl, ?_⟩) | (go_at_call 27; (with_reducible refine (impl_in.calls a0_10 0 10 true _ A64.out).mono ?_); rintro e w' ⟨rfl, ⟨nd, rfl⟩⟩) | (go_at_call 27; (with_reducible refine (impl_in.calls a0_7 ji66 a0_10 true _ A67.out).mono ?_); rintro e w' ⟨rfl, ⟨nd, rfl⟩⟩) | (go_at_call 30; (with_reducible refine (impl_isSeq.calls a0_11 false _ A69.out).mono ?_); rintro e w' ⟨rfl, ⟨nd, rfl⟩⟩))
                  go_ret
                  exact ⟨by first | rfl | (simp [errW_none, errW_some] <;> rfl) | (simp only [← hji66]; first | rfl | (simp [errW_none, errW_some] <;> rfl)) | (simp [*, errW_none, errW_some] <;> rfl), bq HB⟩
                replace c68 := Bool.eq_false_iff.mpr c68
                subst c68
                have H1 : (some false) = some r := by rw [if_neg (show ¬ (false = true) by decide)] at H; exact H
                clear H
                have H := H1
                clear H1
                obtain rfl := Option.some.inj H
                have hnb76 := NB101_104.out
                have hnc76 := NB104_101.out
                obtain ⟨_,_,_,_,_,_,_,_,_,_,_,_,_,_⟩ := cz14 BK101.out
                have hfz77_0 := blk_frozen BK101.out
                go_wp2_with (first | ((with_reducible refine gate_callee (f := 27) rfl ?_); refine gL (some 86) Try.func27 #[.int .i64 a0_9, .int .i64 1, .int .i64 20] ?_; (with_reducible refine (impl_in.calls a0_9 1 20 true _ A62.out).mono ?_); rintro e w' ⟨rfl, ⟨nd, rfl⟩⟩; refine ⟨_, rfl, ?_⟩) | (go_at_call 27; (with_reducible refine (impl_in.calls a0_10 0 10 true _ A64.out).mono ?_); rintro e w' ⟨rfl, ⟨nd, rfl⟩⟩) | (go_at_call 27; (with_reducible refine (impl_in.calls a0_7 ji66 a0_10 false _ A67.out).mono ?_); rintro e w' ⟨rfl, ⟨nd, rfl⟩⟩))
                go_ret
                exact ⟨by first | rfl | (simp [errW_none, errW_some] <;> rfl) | (simp only [← hji66]; first | rfl | (simp [errW_none, errW_some] <;> rfl)) | (simp [*, errW_none, errW_some] <;> rfl), bq HB⟩
              replace c65 := Bool.eq_false_iff.mpr c65
              subst c65
              have H1 : (some false) = some r := by rw [if_neg (show ¬ (false = true) by decide)] at H; exact H
              clear H
              have H := H1
              clear H1
              obtain rfl := Option.some.inj H
              have hnb78 := NB101_104.out
              have hnc78 := NB104_101.out
              obtain ⟨_,_,_,_,_,_,_,_,_,_,_,_,_,_⟩ := cz14 BK101.out
              have hfz79_0 := blk_frozen BK101.out
              go_wp2_with (first | ((with_reducible refine gate_callee (f := 27) rfl ?_); refine gL (some 86) Try.func27 #[.int .i64 a0_9, .int .i64 1, .int .i64 20] ?_; (with_reducible refine (impl_in.calls a0_9 1 20 true _ A62.out).mono ?_); rintro e w' ⟨rfl, ⟨nd, rfl⟩⟩; refine ⟨_, rfl, ?_⟩) | (go_at_call 27; (with_reducible refine (impl_in.calls a0_10 0 10 false _ A64.out).mono ?_); rintro e w' ⟨rfl, ⟨nd, rfl⟩⟩))
              go_ret
              exact ⟨by first | rfl | (simp <;> rfl) | (simp [*] <;> rfl), bq HB⟩
            replace c63 := Bool.eq_false_iff.mpr c63
            subst c63
            have H1 : (some false) = some r := by rw [if_neg (show ¬ (false = true) by decide)] at H; exact H
            clear H
            have H := H1
            clear H1
            obtain rfl := Option.some.inj H
            have hnb80 := NB101_104.out
            have hnc80 := NB104_101.out
            obtain ⟨_,_,_,_,_,_,_,_,_,_,_,_,_,_⟩ := cz14 BK101.out
            have hfz81_0 := blk_frozen BK101.out
            go_wp2_with (first | ((with_reducible refine gate_callee (f := 27) rfl ?_); refine gL (some 86) Try.func27 #[.int .i64 a0_9, .int .i64 1, .int .i64 20] ?_; (with_reducible refine (impl_in.calls a0_9 1 20 false _ A62.out).mono ?_); rintro e w' ⟨rfl, ⟨nd, rfl⟩⟩; refine ⟨_, rfl, ?_⟩))
            go_ret
            exact ⟨by first | rfl | (simp <;> rfl) | (simp [*] <;> rfl), bq HB⟩
      rw [if_neg c49] at H
      have c49b0 : (a0_1 == 2) = false := beq_eq_false_iff_ne.mpr c49
      have c49b1 : (a0_1 != 2) = true := bne_iff_ne.mpr c49
      by_cases c82 : a0_1 = 3
      · rw [if_pos c82] at H
        have c82b0 : (a0_1 == 3) = true := beq_iff_eq.mpr c82
        have c82b1 : (a0_1 != 3) = false := bne_eq_false_iff_eq.mpr c82
        clear c82
        have HC83 := Aside0.mk H
        clear H
        obtain ⟨_,_,_,_,_,_,_,_,_,_,_,_,_,_⟩ := cz14 BK101.out
        have hfz84_0 := blk_frozen BK101.out
        go_upto_region 13 with (first | ((with_reducible refine gate_dst (N := 3) rfl ?_); (try (refine gate_guard (by rfl) ?_; dsimp only)); refine box_event ?hg (N := 3) ?hd (cs := tk14 0 0 0 0 false 0 0 0 0 0 0 0 0 0) (t := 30) ?hr ?_; (case hd => rfl); (case hg => rfl); (case hr => first | (go_simp; done) | (go_simp; rfl)); intro gb104 hg w85 hbox hb; have n0_ := aM (blk_below (kq BK101) hb); have n1_ := aM (below_step (bq HB) hb); have n2_ := aM (hbox); have n3_ := aM ((by rw [hg]; exact (below_size (bq HB)) : w.heap.size ≤ gb104)); have n4_ := n3_; have n5_ := aM ((by rw [hg]; exact Nat.ne_of_lt (blk_lt (kq BK101)) : gb101 ≠ gb104)); have n6_ := aM (n5_.out.symm); clear BK101 HB; have BK101 := n0_; have HB := n1_; have BK104 := n2_; have GW104 := n3_; have GE104 := n4_; have NB101_104 := n5_; have NB104_101 := n6_; clear n0_ n1_ n2_ n3_ n4_ n5_ n6_; clear hb hbox hg; have hnb86 := NB104_101.out; have hnc86 := NB101_104.out; obtain ⟨_,_,_,_,_,_,_,_,_,_,_,_,_,_⟩ := cz14 BK104.out; have hfz87_0 := blk_frozen BK104.out; obtain ⟨_,_,_,_,_,_,_,_,_,_,_,_,_,_⟩ := cz14 BK101.out; have hfz88_0 := blk_frozen BK101.out))
        (try simp only [Act.put, tA, tB, tC])
        go_cut [] (fun wc => ∃ (kq : Nat) (x105012_82 : Int) (x105013_82 : Int), Aside0 (impl_TaskOk0.j3 kq a0_0 a0_1 a0_2 a0_3 a0_4 a0_5 a0_6 a0_7 a0_8 a0_9 a0_10 a0_11 a0_12 a0_13 a0_0 a0_1 a0_2 a0_3 a0_4 0 0 0 0 0 0 0 x105012_82 x105013_82 = some r) ∧ Aside0 (kq ≤ kj1) ∧ Aside0 (wc.heap[gb101]? = some (.cells #[.int .i64 a0_0, .int .i64 a0_1, .int .i64 a0_2, .int .i64 a0_3, .bool a0_4, .int .i64 a0_5, .int .i64 a0_6, .int .i64 a0_7, .int .i64 a0_8, .int .i64 a0_9, .int .i64 a0_10, .int .i64 a0_11, .int .i64 a0_12, .int .i64 a0_13] 30 (0, 0))) ∧ Aside0 (wc.heap[gb104]? = some (.cells #[.int .i64 a0_0, .int .i64 a0_1, .int .i64 a0_2, .int .i64 a0_3, .bool a0_4, .int .i64 0, .int .i64 0, .int .i64 0, .int .i64 0, .int .i64 0, .int .i64 0, .int .i64 0, .int .i64 x105012_82, .int .i64 x105013_82] 30 (0, 0))) ∧ Aside0 (Below w.heap.size w wc))
        case first =>
          have H := HC83.out
          clear HC83
          have H' := Aside0.mk H
          clear H
          try go_wp2
          have n0_ : Aside0 (((((((((((((((w85.setCell ⟨gb104, 0, none⟩ (.int .i64 a0_0)).setCell ⟨gb104, 1, none⟩ (.int .i64 a0_1)).setCell ⟨gb104, 2, none⟩ (.int .i64 a0_2)).setCell ⟨gb104, 3, none⟩ (.int .i64 a0_3)).setCell ⟨gb104, 4, none⟩ (.bool a0_4)).setCell ⟨gb104, 5, none⟩ (.int .i64 0)).setCell ⟨gb104, 6, none⟩ (.int .i64 0)).setCell ⟨gb104, 7, none⟩ (.int .i64 0)).setCell ⟨gb104, 8, none⟩ (.int .i64 0)).setCell ⟨gb104, 9, none⟩ (.int .i64 0)).setCell ⟨gb104, 10, none⟩ (.int .i64 0)).setCell ⟨gb104, 11, none⟩ (.int .i64 0)).setCell ⟨gb104, 12, none⟩ (.int .i64 0)).setCell ⟨gb104, 13, none⟩ (.int .i64 0)).heap[gb101]? = some (.cells #[.int .i64 a0_0, .int .i64 a0_1, .int .i64 a0_2, .int .i64 a0_3, .bool a0_4, .int .i64 a0_5, .int .i64 a0_6, .int .i64 a0_7, .int .i64 a0_8, .int .i64 a0_9, .int .i64 a0_10, .int .i64 a0_11, .int .i64 a0_12, .int .i64 a0_13] 30 (0, 0))) := ⟨by refine far14 ?_ NB101_104.out; (with_reducible repeat (first | apply bkD | apply bkd | apply bkA)); exact BK101.out⟩
          have n1_ : Aside0 (((((((((((((((w85.setCell ⟨gb104, 0, none⟩ (.int .i64 a0_0)).setCell ⟨gb104, 1, none⟩ (.int .i64 a0_1)).setCell ⟨gb104, 2, none⟩ (.int .i64 a0_2)).setCell ⟨gb104, 3, none⟩ (.int .i64 a0_3)).setCell ⟨gb104, 4, none⟩ (.bool a0_4)).setCell ⟨gb104, 5, none⟩ (.int .i64 0)).setCell ⟨gb104, 6, none⟩ (.int .i64 0)).setCell ⟨gb104, 7, none⟩ (.int .i64 0)).setCell ⟨gb104, 8, none⟩ (.int .i64 0)).setCell ⟨gb104, 9, none⟩ (.int .i64 0)).setCell ⟨gb104, 10, none⟩ (.int .i64 0)).setCell ⟨gb104, 11, none⟩ (.int .i64 0)).setCell ⟨gb104, 12, none⟩ (.int .i64 0)).setCell ⟨gb104, 13, none⟩ (.int .i64 0)).heap[gb104]? = some (.cells #[.int .i64 a0_0, .int .i64 a0_1, .int .i64 a0_2, .int .i64 a0_3, .bool a0_4, .int .i64 0, .int .i64 0, .int .i64 0, .int .i64 0, .int .i64 0, .int .i64 0, .int .i64 0, .int .i64 0, .int .i64 0] 30 (0, 0))) := ⟨by refine put14 (cs := tk14 0 0 0 0 false 0 0 0 0 0 0 0 0 0) ?_; (with_reducible repeat (first | apply bkD | apply bkd | apply bkA)); exact BK104.out⟩
          have n2_ : Aside0 (Below w.heap.size w ((((((((((((((w85.setCell ⟨gb104, 0, none⟩ (.int .i64 a0_0)).setCell ⟨gb104, 1, none⟩ (.int .i64 a0_1)).setCell ⟨gb104, 2, none⟩ (.int .i64 a0_2)).setCell ⟨gb104, 3, none⟩ (.int .i64 a0_3)).setCell ⟨gb104, 4, none⟩ (.bool a0_4)).setCell ⟨gb104, 5, none⟩ (.int .i64 0)).setCell ⟨gb104, 6, none⟩ (.int .i64 0)).setCell ⟨gb104, 7, none⟩ (.int .i64 0)).setCell ⟨gb104, 8, none⟩ (.int .i64 0)).setCell ⟨gb104, 9, none⟩ (.int .i64 0)).setCell ⟨gb104, 10, none⟩ (.int .i64 0)).setCell ⟨gb104, 11, none⟩ (.int .i64 0)).setCell ⟨gb104, 12, none⟩ (.int .i64 0)).setCell ⟨gb104, 13, none⟩ (.int .i64 0))) := ⟨bq HB⟩
          (try clear BK101)
          (try clear BK104)
          (try clear HB)
          generalize ((((((((((((((w85.setCell ⟨gb104, 0, none⟩ (.int .i64 a0_0)).setCell ⟨gb104, 1, none⟩ (.int .i64 a0_1)).setCell ⟨gb104, 2, none⟩ (.int .i64 a0_2)).setCell ⟨gb104, 3, none⟩ (.int .i64 a0_3)).setCell ⟨gb104, 4, none⟩ (.bool a0_4)).setCell ⟨gb104, 5, none⟩ (.int .i64 0)).setCell ⟨gb104, 6, none⟩ (.int .i64 0)).setCell ⟨gb104, 7, none⟩ (.int .i64 0)).setCell ⟨gb104, 8, none⟩ (.int .i64 0)).setCell ⟨gb104, 9, none⟩ (.int .i64 0)).setCell ⟨gb104, 10, none⟩ (.int .i64 0)).setCell ⟨gb104, 11, none⟩ (.int .i64 0)).setCell ⟨gb104, 12, none⟩ (.int .i64 0)).setCell ⟨gb104, 13, none⟩ (.int .i64 0)) = w89 at n0_ n1_ n2_ ⊢
          have BK101 := n0_
          have BK104 := n1_
          have HB := n2_
          clear n0_ n1_ n2_
          have n0_ := aM (blk_drew BK101.out)
          have n1_ := aM (blk_drew BK104.out)
          have n2_ := aM (below_drew1 HB.out)
          clear BK101 BK104 HB
          have BK101 := n0_
          have BK104 := n1_
          have HB := n2_
          clear n0_ n1_ n2_
          refine start_ (n := 8) (S := fun w' => cb14 w' gb101 (.int .i64 a0_0) (.int .i64 a0_1) (.int .i64 a0_2) (.int .i64 a0_3) (.bool a0_4) (.int .i64 a0_5) (.int .i64 a0_6) (.int .i64 a0_7) (.int .i64 a0_8) (.int .i64 a0_9) (.int .i64 a0_10) (.int .i64 a0_11) (.int .i64 a0_12) (.int .i64 a0_13)) (ds := []) #[nn,nn,nn,nn,nn,nn,nn,nn] (by kernel_rfl) rfl rfl ⟨(blk_cell BK101.out 0).trans rfl, (blk_cell BK101.out 1).trans rfl, (blk_cell BK101.out 2).trans rfl, (blk_cell BK101.out 3).trans rfl, (blk_cell BK101.out 4).trans rfl, (blk_cell BK101.out 5).trans rfl, (blk_cell BK101.out 6).trans rfl, (blk_cell BK101.out 7).trans rfl, (blk_cell BK101.out 8).trans rfl, (blk_cell BK101.out 9).trans rfl, (blk_cell BK101.out 10).trans rfl, (blk_cell BK101.out 11).trans rfl, (blk_cell BK101.out 12).trans rfl, (blk_cell BK101.out 13).trans rfl⟩ (fun hHeld => ?_); refine with_tabW impl_TaskOk0.tab13 impl_TaskOk0.bits13 (fun HT_ HW_ => ?_)
          generalize w89.drew = w90 at BK101 BK104 HB hHeld ⊢
          refine pQ (i := 0) (N := some 109) #[yy,nn,nn,nn,nn,nn,nn,nn] (any_of HT_.out (by kernel_rfl)) ?_
          refine pQ (i := 2) (N := some 111) #[yy,nn,yy,nn,nn,nn,nn,nn] (any_of HT_.out (by kernel_rfl)) ?_
          refine tQ (i := 1) (N := some 110) #[yy,yy,yy,nn,nn,nn,nn,nn] (take_ofW HT_.out HW_.out (by kernel_rfl)) hHeld ?_
          refine pQ (i := 4) (N := some 113) #[yy,yy,yy,nn,yy,nn,nn,nn] (any_of HT_.out (by kernel_rfl)) ?_
          refine tQ (i := 3) (N := some 112) #[yy,yy,yy,yy,yy,nn,nn,nn] (take_ofW HT_.out HW_.out (by kernel_rfl)) hHeld ?_
          refine one_ (i := 5) (N := none) #[yy,yy,yy,yy,yy,yy,nn,nn] rfl rfl (one_of HT_.out (by kernel_rfl)) (by decide) (fun K hK => ?_)
          have hs91 : w90.cell? ⟨gb104, 12, none⟩ = some (.int .i64 0) := (blk_cell BK104.out 12).trans rfl
          have hfs91 := blk_frozen BK104.out 12
          have hns91_0 := NB101_104.out
          have hms91_0 := NB104_101.out
          refine skip_ (w1 := ?_) (by rfl) rfl ?_ ?_
          rotate_left
          · go_simp
            rfl
          refine hK.out _ _ (fa14 (g := gb104) NB101_104.out hHeld) (fun hHeld => ?_)
          clear hK K
          refine pQ (i := 6) (N := some 114) #[yy,yy,yy,yy,yy,yy,yy,nn] (any_of HT_.out (by kernel_rfl)) ?_
          refine one_ (i := 7) (N := none) #[yy,yy,yy,yy,yy,yy,yy,yy] rfl rfl (one_of HT_.out (by kernel_rfl)) (by decide) (fun K hK => ?_)
          have hs92 : w90.cell? ⟨gb104, 13, none⟩ = some (.int .i64 0) := (blk_cell BK104.out 13).trans rfl
          have hfs92 := blk_frozen BK104.out 13
          have hns92_0 := NB101_104.out
          have hms92_0 := NB104_101.out
          refine skip_ (w1 := ?_) (by rfl) rfl ?_ ?_
          rotate_left
          · go_simp
            rfl
          refine hK.out _ _ (fa14 (g := gb104) NB101_104.out hHeld) (fun hHeld => ?_)
          clear hK K
          refine done_ (done_of HT_.out (by kernel_rfl)) ?_
          try go_wp2
          go_meet
          case rel => exact ⟨_, (a0_12), (a0_13), H', ⟨by have := HJ1.out; first | omega | exact Nat.le_refl _⟩, ⟨by (with_reducible repeat (first | apply bkD | apply bkd | apply bkA)); refine blk_far ?_ NB101_104.out _; (with_reducible repeat (first | apply bkD | apply bkd | apply bkA)); refine blk_far ?_ NB101_104.out _; (with_reducible repeat (first | apply bkD | apply bkd | apply bkA)); exact BK101.out⟩, ⟨by (with_reducible repeat (first | apply bkD | apply bkd | apply bkA)); refine blk_put (cs := tk14 a0_0 a0_1 a0_2 a0_3 a0_4 0 0 0 0 0 0 0 a0_12 0) ?_ 13 _ rfl; (with_reducible repeat (first | apply bkD | apply bkd | apply bkA)); refine blk_put (cs := tk14 a0_0 a0_1 a0_2 a0_3 a0_4 0 0 0 0 0 0 0 0 0) ?_ 12 _ rfl; (with_reducible repeat (first | apply bkD | apply bkd | apply bkA)); exact BK104.out⟩, ⟨bq HB⟩⟩
        case rest =>
          clear HC83
          try clear c2
          try clear p2
          try clear c4
          try clear c6
          try clear c7
          try clear c8
          try clear c27
          try clear c49
          try clear c49b0
          try clear c49b1
          try clear c63
          try clear c65
          try clear c68
          try clear c70
          try clear c71
          try clear c74
          try clear c76
          try clear c78
          try clear c80
          try clear c82
          try clear c82b0
          try clear c82b1
          try clear c86
          try clear hfz19_0
          try clear hfz20_0
          try clear hfz34_0
          try clear hfz36_0
          try clear hfz37_0
          try clear hfz39_0
          try clear hfz41_0
          try clear hfz43_0
          try clear hfz45_0
          try clear hfz47_0
          try clear hfz51_0
          try clear hfz54_0
          try clear hfz55_0
          try clear hfz72_0
          try clear hfz73_0
          try clear hfz75_0
          try clear hfz77_0
          try clear hfz79_0
          try clear hfz81_0
          try clear hfz84_0
          try clear hfz87_0
          try clear hfz88_0
          try clear hfz9_0
          try clear p2
          obtain ⟨kq, x105012_82, x105013_82, HA, HJ82, BK101, BK104, HB⟩ := hcut
          cases kq with
          | zero => exact absurd HA.out (by simp [impl_TaskOk0.j3])
          | succ kj82 =>
            have H := HA.out
            clear HA
            simp only [impl_TaskOk0.j3] at H
            replace H := Option.bind_eq_some_iff.mp H
            obtain ⟨t112, A930, H⟩ := H
            replace H : (if t112 = true then ((impl_in.f a0_13 0 100000000).bind fun t113 => (if t113 = true then (some (a0_0 == a0_0 && (a0_1 == a0_1 && (a0_2 == a0_2 && (a0_3 == a0_3 && (a0_4 == a0_4 && (a0_5 == 0 && (a0_6 == 0 && (a0_7 == 0 && (a0_8 == 0 && (a0_9 == 0 && (a0_10 == 0 && (a0_11 == 0 && (a0_12 == x105012_82 && (a0_13 == x105013_82))))))))))))))) else (some false))) else (some false)) = some r := H
            have A93 := Aside0.mk A930
            clear A930
            by_cases c94 : t112 = true
            · subst c94
              have H1 : ((impl_in.f a0_13 0 100000000).bind fun t113 => (if t113 = true then (some (a0_0 == a0_0 && (a0_1 == a0_1 && (a0_2 == a0_2 && (a0_3 == a0_3 && (a0_4 == a0_4 && (a0_5 == 0 && (a0_6 == 0 && (a0_7 == 0 && (a0_8 == 0 && (a0_9 == 0 && (a0_10 == 0 && (a0_11 == 0 && (a0_12 == x105012_82 && (a0_13 == x105013_82))))))))))))))) else (some false))) = some r := by rw [if_pos rfl] at H; exact H
              clear H
              have H := H1
              clear H1
              replace H := Option.bind_eq_some_iff.mp H
              obtain ⟨t113, A950, H⟩ := H
              replace H : (if t113 = true then (some (a0_0 == a0_0 && (a0_1 == a0_1 && (a0_2 == a0_2 && (a0_3 == a0_3 && (a0_4 == a0_4 && (a0_5 == 0 && (a0_6 == 0 && (a0_7 == 0 && (a0_8 == 0 && (a0_9 == 0 && (a0_10 == 0 && (a0_11 == 0 && (a0_12 == x105012_82 && (a0_13 == x105013_82))))))))))))))) else (some false)) = some r := H
              have A95 := Aside0.mk A950
              clear A950
              by_cases c96 : t113 = true
              · subst c96
                have H1 : (some (a0_0 == a0_0 && (a0_1 == a0_1 && (a0_2 == a0_2 && (a0_3 == a0_3 && (a0_4 == a0_4 && (a0_5 == 0 && (a0_6 == 0 && (a0_7 == 0 && (a0_8 == 0 && (a0_9 == 0 && (a0_10 == 0 && (a0_11 == 0 && (a0_12 == x105012_82 && (a0_13 == x105013_82))))))))))))))) = some r := by rw [if_pos rfl] at H; exact H
                clear H
                have H := H1
                clear H1
                obtain rfl := Option.some.inj H
                have hnb97 := NB101_104.out
                have hnc97 := NB104_101.out
                obtain ⟨_,_,_,_,_,_,_,_,_,_,_,_,_,_⟩ := cz14 BK101.out
                have hfz98_0 := blk_frozen BK101.out
                go_wp2_with (first | ((with_reducible refine gate_callee (f := 31) rfl ?_); refine gL (some 117) Try.func31 #[.int .i64 a0_12] ?_; (with_reducible refine (impl_NiceOk.calls a0_12 true _ A93.out).mono ?_); rintro e w' ⟨rfl, ⟨nd, rfl⟩⟩; refine ⟨_, rfl, ?_⟩) | (go_at_call 27; (with_reducible refine (impl_in.calls a0_13 0 100000000 true _ A95.out).mono ?_); rintro e w' ⟨rfl, ⟨nd, rfl⟩⟩; obtain ⟨_,_,_,_,_,_,_,_,_,_,_,_,_,_⟩ := cz14 BK104.out; have hfz99_0 := blk_frozen BK104.out))
                go_ret
                exact ⟨by first | rfl | (simp <;> rfl) | (simp [*] <;> rfl), bq HB⟩
              replace c96 := Bool.eq_false_iff.mpr c96
              subst c96
              have H1 : (some false) = some r := by rw [if_neg (show ¬ (false = true) by decide)] at H; exact H
              clear H
              have H := H1
              clear H1
              obtain rfl := Option.some.inj H
              have hnb100 := NB101_104.out
              have hnc100 := NB104_101.out
              obtain ⟨_,_,_,_,_,_,_,_,_,_,_,_,_,_⟩ := cz14 BK101.out
              have hfz101_0 := blk_frozen BK101.out
              go_wp2_with (first | ((with_reducible refine gate_callee (f := 31) rfl ?_); refine gL (some 117) Try.func31 #[.int .i64 a0_12] ?_; (with_reducible refine (impl_NiceOk.calls a0_12 true _ A93.out).mono ?_); rintro e w' ⟨rfl, ⟨nd, rfl⟩⟩; refine ⟨_, rfl, ?_⟩) | (go_at_call 27; (with_reducible refine (impl_in.calls a0_13 0 100000000 false _ A95.out).mono ?_); rintro e w' ⟨rfl, ⟨nd, rfl⟩⟩))
              go_ret
              exact ⟨by first | rfl | (simp <;> rfl) | (simp [*] <;> rfl), bq HB⟩
            replace c94 := Bool.eq_false_iff.mpr c94
            subst c94
            have H1 : (some false) = some r := by rw [if_neg (show ¬ (false = true) by decide)] at H; exact H
            clear H
            have H := H1
            clear H1
            obtain rfl := Option.some.inj H
            have hnb102 := NB101_104.out
            have hnc102 := NB104_101.out
            obtain ⟨_,_,_,_,_,_,_,_,_,_,_,_,_,_⟩ := cz14 BK101.out
            have hfz103_0 := blk_frozen BK101.out
            go_wp2_with (first | ((with_reducible refine gate_callee (f := 31) rfl ?_); refine gL (some 117) Try.func31 #[.int .i64 a0_12] ?_; (with_reducible refine (impl_NiceOk.calls a0_12 false _ A93.out).mono ?_); rintro e w' ⟨rfl, ⟨nd, rfl⟩⟩; refine ⟨_, rfl, ?_⟩))
            go_ret
            exact ⟨by first | rfl | (simp <;> rfl) | (simp [*] <;> rfl), bq HB⟩
      rw [if_neg c82] at H
      have c82b0 : (a0_1 == 3) = false := beq_eq_false_iff_ne.mpr c82
      have c82b1 : (a0_1 != 3) = true := bne_iff_ne.mpr c82
      obtain rfl := Option.some.inj H
      obtain ⟨_,_,_,_,_,_,_,_,_,_,_,_,_,_⟩ := cz14 BK101.out
      have hfz104_0 := blk_frozen BK101.out
      go_wp2_with (first | ((with_reducible refine gate_dst (N := 3) rfl ?_); (try (refine gate_guard (by rfl) ?_; dsimp only)); refine box_event ?hg (N := 3) ?hd (cs := tk14 0 0 0 0 false 0 0 0 0 0 0 0 0 0) (t := 30) ?hr ?_; (case hd => rfl); (case hg => rfl); (case hr => first | (go_simp; done) | (go_simp; rfl)); intro gb104 hg w105 hbox hb; have n0_ := aM (blk_below (kq BK101) hb); have n1_ := aM (below_step (bq HB) hb); have n2_ := aM (hbox); have n3_ := aM ((by rw [hg]; exact (below_size (bq HB)) : w.heap.size ≤ gb104)); have n4_ := n3_; have n5_ := aM ((by rw [hg]; exact Nat.ne_of_lt (blk_lt (kq BK101)) : gb101 ≠ gb104)); have n6_ := aM (n5_.out.symm); clear BK101 HB; have BK101 := n0_; have HB := n1_; have BK104 := n2_; have GW104 := n3_; have GE104 := n4_; have NB101_104 := n5_; have NB104_101 := n6_; clear n0_ n1_ n2_ n3_ n4_ n5_ n6_; clear hb hbox hg; have hnb106 := NB104_101.out; have hnc106 := NB101_104.out; obtain ⟨_,_,_,_,_,_,_,_,_,_,_,_,_,_⟩ := cz14 BK104.out; have hfz107_0 := blk_frozen BK104.out; obtain ⟨_,_,_,_,_,_,_,_,_,_,_,_,_,_⟩ := cz14 BK101.out; have hfz108_0 := blk_frozen BK101.out))
      go_ret
      exact ⟨by first | rfl | (simp <;> rfl) | (simp [*] <;> rfl), bq HB⟩

/-! impl_TaskOk, told plainly -/
theorem p_in_eq (a b c : Int) : impl_in.f a b c = some (decide (b ≤ a ∧ a ≤ c)) := by
  unfold impl_in.f
  by_cases h : a ≥ b
  · rw [if_pos h]; simp [show b ≤ a from h]
  rw [if_neg h]; simp; omega
theorem p_nice_eq (a : Int) : impl_NiceOk.f a = some (decide (-4 ≤ a ∧ a ≤ 4)) := by
  unfold impl_NiceOk.f
  rw [p_in_eq]
  rfl
theorem p_share_eq (q p : Int) : impl_ShareOk.f q p = some (decide (ShareP q p)) := by
  unfold impl_ShareOk.f ShareP
  simp only [p_in_eq, Option.bind_some, decide_eq_true_eq]
  by_cases h : 1 ≤ p ∧ p ≤ 40
  · simp only [h, and_self, if_true, true_and]
  simp only [h, if_false, false_and, decide_false]
theorem p_impl_tk (a0 a1 a2 a3 : Int) (a4 : Bool) (a5 a6 a7 a8 a9 a10 a11 a12 a13 : Int) : impl_TaskOk0.f 3 a0 a1 a2 a3 a4 a5 a6 a7 a8 a9 a10 a11 a12 a13 = some (decide (TaskP a0 a1 a2 a3 a5 a6 a7 a8 a9 a10 a11 a12 a13)) := by
  simp only [impl_TaskOk0.f, impl_TaskOk0.j0, impl_TaskOk0.j1, impl_TaskOk0.j2, impl_TaskOk0.j3, impl_isNo.f, impl_isUntil.f, impl_isSeq.f, p_share_eq, p_nice_eq, p_in_eq, Option.bind_some, decide_eq_true_eq, beq_self_eq_true, Bool.true_and, Bool.and_true, mn, dBeq, dBne, dAnd, dFalse, dTrue, dIte, Bool.false_eq_true, if_true, if_false]
  refine congrArg some (decide_eq_decide.2 ?_)
  unfold TaskP ShareP
  simp only [decide_eq_true_eq, and_false, or_false, false_or, Classical.not_not]
  have hs : ∀ X : Prop, (a3 = 1 ∧ X ∨ ¬a3 = 1 ∧ a3 = 2 ∧ X) ↔ ((1 ≤ a3 ∧ a3 ≤ 2) ∧ X) := by
    intro X
    by_cases h : a3 = 1
    · simp only [h, true_and, not_true_eq_false, false_and, or_false]
      exact ⟨fun x => ⟨by omega, x⟩, fun x => x.2⟩
    simp only [h, false_and, false_or, not_false_eq_true, true_and]
    exact ⟨fun x => ⟨by omega, x.2⟩, fun x => ⟨by omega, x.2⟩⟩
  simp only [hs]
  refine and_congr_right fun _ => and_congr_right fun _ => and_congr_right fun _ => ?_
  by_cases h1 : a1 = 1
  · subst h1
    simp only [true_and, not_true_eq_false, false_and, or_false, Int.reduceEq]
    omega
  by_cases h2 : a1 = 2
  · subst h2
    simp only [true_and, not_true_eq_false, not_false_eq_true, false_and, or_false, false_or, Int.reduceEq]
    omega
  by_cases h3 : a1 = 3
  · subst h3
    simp only [true_and, not_true_eq_false, not_false_eq_true, false_and, or_false, false_or, Int.reduceEq]
    omega
  simp only [h1, h2, h3, true_and, not_true_eq_false, not_false_eq_true, false_and, or_false, false_or]
-- WRAP rounds=no
def impl_TaskOk.f (a0_0 : Int) (a0_1 : Int) (a0_2 : Int) (a0_3 : Int) (a0_4 : Bool) (a0_5 : Int) (a0_6 : Int) (a0_7 : Int) (a0_8 : Int) (a0_9 : Int) (a0_10 : Int) (a0_11 : Int) (a0_12 : Int) (a0_13 : Int) : Option (Bool) := some (decide (TaskP a0_0 a0_1 a0_2 a0_3 a0_5 a0_6 a0_7 a0_8 a0_9 a0_10 a0_11 a0_12 a0_13))
theorem impl_TaskOk.calls (a0_0 : Int) (a0_1 : Int) (a0_2 : Int) (a0_3 : Int) (a0_4 : Bool) (a0_5 : Int) (a0_6 : Int) (a0_7 : Int) (a0_8 : Int) (a0_9 : Int) (a0_10 : Int) (a0_11 : Int) (a0_12 : Int) (a0_13 : Int) (r : Bool) (w : World) (h : impl_TaskOk.f a0_0 a0_1 a0_2 a0_3 a0_4 a0_5 a0_6 a0_7 a0_8 a0_9 a0_10 a0_11 a0_12 a0_13 = some r) :
    Calls Try.prog 15 #[.agg #[.int .i64 a0_0, .int .i64 a0_1, .int .i64 a0_2, .int .i64 a0_3, .bool a0_4, .int .i64 a0_5, .int .i64 a0_6, .int .i64 a0_7, .int .i64 a0_8, .int .i64 a0_9, .int .i64 a0_10, .int .i64 a0_11, .int .i64 a0_12, .int .i64 a0_13]] w fun e w' => e = .returned (.bool r) ∧ Below w.heap.size w w' := impl_TaskOk0.calls 3 a0_0 a0_1 a0_2 a0_3 a0_4 a0_5 a0_6 a0_7 a0_8 a0_9 a0_10 a0_11 a0_12 a0_13 r w ((p_impl_tk a0_0 a0_1 a0_2 a0_3 a0_4 a0_5 a0_6 a0_7 a0_8 a0_9 a0_10 a0_11 a0_12 a0_13).trans h)

end Go.Proofs.Ytbihinhckmfplaa.Print
