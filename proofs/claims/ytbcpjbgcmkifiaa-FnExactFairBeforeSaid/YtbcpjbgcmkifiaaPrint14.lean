/- Go functions as plain Lean functions, and that the Go code answers just as these, wherever they answer. Conditions: those of each theorem. Written by a program of this session (wip/patch.py). -/
import Derived.Test.YtbcpjbgcmkifiaaPrint0
import Derived.Test.YtbcpjbgcmkifiaaPrint1
import Derived.Test.YtbcpjbgcmkifiaaPrint2
import Derived.Test.YtbcpjbgcmkifiaaPrint13
namespace Go.Proofs.Ytbcpjbgcmkifiaa.Print
open Go.RowKit Go.Proofs.Ytbcpjbgcmkifiaa.Base Go.Proofs.YtbcpjbgcmkifiaaW.PrintWords Go.Proofs.YtbcpjbgcmkifiaaW.PrintLast Go.Proofs.YtbcpjbgcmkifiaaW.PrintMore
attribute [local go_sem] max2_int min2_int max_two min_two max_three min_three max_four min_four   -- for this text's walks alone
set_option linter.unusedVariables false
set_option linter.unusedSimpArgs false

attribute [local go_sem high] eqA48
/-! ### impl_TaskOk0: function 36 -/
mutual
def impl_TaskOk0.j0 : Nat → Bool → Int → Int → Int → Int → Bool → Int → Int → Int → Int → Int → Int → Int → Int → Int → Option (Bool)
  | 0, _, _, _, _, _, _, _, _, _, _, _, _, _, _, _ => none
  | k + 1, x24, x281000, x281001, x281002, x281003, x281004, x281005, x281006, x281007, x281008, x281009, x281010, x281011, x281012, x281013 => if x24 = true then (some false) else (if x281001 = 1 then (impl_TaskOk0.j1 k x281000 x281001 x281002 x281003 x281004 x281005 x281006 x281007 x281008 x281009 x281010 x281011 x281012 x281013 x281000 x281001 x281002 x281003 x281004 x281005 x281006 x281007 x281008 0 0 0 0 0) else (if x281001 = 2 then (impl_TaskOk0.j2 k x281000 x281001 x281002 x281003 x281004 x281005 x281006 x281007 x281008 x281009 x281010 x281011 x281012 x281013 x281000 x281001 x281002 x281003 x281004 0 0 x281007 0 x281009 x281010 x281011 0 0) else (if x281001 = 3 then (impl_TaskOk0.j3 k x281000 x281001 x281002 x281003 x281004 x281005 x281006 x281007 x281008 x281009 x281010 x281011 x281012 x281013 x281000 x281001 x281002 x281003 x281004 0 0 0 0 0 0 0 x281012 x281013) else (some false))))
def impl_TaskOk0.j1 : Nat → Int → Int → Int → Int → Bool → Int → Int → Int → Int → Int → Int → Int → Int → Int → Int → Int → Int → Int → Bool → Int → Int → Int → Int → Int → Int → Int → Int → Int → Option (Bool)
  | 0, _, _, _, _, _, _, _, _, _, _, _, _, _, _, _, _, _, _, _, _, _, _, _, _, _, _, _, _ => none
  | k + 1, x281000, x281001, x281002, x281003, x281004, x281005, x281006, x281007, x281008, x281009, x281010, x281011, x281012, x281013, x284000, x284001, x284002, x284003, x284004, x284005, x284006, x284007, x284008, x284009, x284010, x284011, x284012, x284013 => (impl_ShareOk.f x281005 x281006).bind fun t284 => (if t284 = true then ((impl_in.f x281007 0 x281005).bind fun t285 => (if t285 = true then ((impl_isUntil.f x281008).bind fun t286 => (if t286 = true then (some (x281000 == x284000 && (x281001 == x284001 && (x281002 == x284002 && (x281003 == x284003 && (x281004 == x284004 && (x281005 == x284005 && (x281006 == x284006 && (x281007 == x284007 && (x281008 == x284008 && (x281009 == x284009 && (x281010 == x284010 && (x281011 == x284011 && (x281012 == x284012 && (x281013 == x284013))))))))))))))) else (some false))) else (some false))) else (some false))
def impl_TaskOk0.j2 : Nat → Int → Int → Int → Int → Bool → Int → Int → Int → Int → Int → Int → Int → Int → Int → Int → Int → Int → Int → Bool → Int → Int → Int → Int → Int → Int → Int → Int → Int → Option (Bool)
  | 0, _, _, _, _, _, _, _, _, _, _, _, _, _, _, _, _, _, _, _, _, _, _, _, _, _, _, _, _ => none
  | k + 1, x281000, x281001, x281002, x281003, x281004, x281005, x281006, x281007, x281008, x281009, x281010, x281011, x281012, x281013, x284000, x284001, x284002, x284003, x284004, x284005, x284006, x284007, x284008, x284009, x284010, x284011, x284012, x284013 => (impl_in.f x281009 1 20).bind fun t287 => (if t287 = true then ((impl_in.f x281010 0 10).bind fun t288 => (if t288 = true then ((impl_in.f x281007 (mn 1 x281010) x281010).bind fun t289 => (if t289 = true then ((impl_isSeq.f x281011).bind fun t290 => (if t290 = true then (some (x281000 == x284000 && (x281001 == x284001 && (x281002 == x284002 && (x281003 == x284003 && (x281004 == x284004 && (x281005 == x284005 && (x281006 == x284006 && (x281007 == x284007 && (x281008 == x284008 && (x281009 == x284009 && (x281010 == x284010 && (x281011 == x284011 && (x281012 == x284012 && (x281013 == x284013))))))))))))))) else (some false))) else (some false))) else (some false))) else (some false))
def impl_TaskOk0.j3 : Nat → Int → Int → Int → Int → Bool → Int → Int → Int → Int → Int → Int → Int → Int → Int → Int → Int → Int → Int → Bool → Int → Int → Int → Int → Int → Int → Int → Int → Int → Option (Bool)
  | 0, _, _, _, _, _, _, _, _, _, _, _, _, _, _, _, _, _, _, _, _, _, _, _, _, _, _, _, _ => none
  | k + 1, x281000, x281001, x281002, x281003, x281004, x281005, x281006, x281007, x281008, x281009, x281010, x281011, x281012, x281013, x284000, x284001, x284002, x284003, x284004, x284005, x284006, x284007, x284008, x284009, x284010, x284011, x284012, x284013 => (impl_NiceOk.f x281012).bind fun t291 => (if t291 = true then ((impl_in.f x281013 0 100000000).bind fun t292 => (if t292 = true then (some (x281000 == x284000 && (x281001 == x284001 && (x281002 == x284002 && (x281003 == x284003 && (x281004 == x284004 && (x281005 == x284005 && (x281006 == x284006 && (x281007 == x284007 && (x281008 == x284008 && (x281009 == x284009 && (x281010 == x284010 && (x281011 == x284011 && (x281012 == x284012 && (x281013 == x284013))))))))))))))) else (some false))) else (some false))
end
def impl_TaskOk0.f (k : Nat) (a0_0 : Int) (a0_1 : Int) (a0_2 : Int) (a0_3 : Int) (a0_4 : Bool) (a0_5 : Int) (a0_6 : Int) (a0_7 : Int) (a0_8 : Int) (a0_9 : Int) (a0_10 : Int) (a0_11 : Int) (a0_12 : Int) (a0_13 : Int) : Option (Bool) := (impl_isNo.f a0_0).bind fun t281 => (if t281 = true then ((impl_in.f a0_2 0 3).bind fun t282 => (if t282 = true then (if a0_3 = 1 then (impl_TaskOk0.j0 k false a0_0 a0_1 a0_2 a0_3 a0_4 a0_5 a0_6 a0_7 a0_8 a0_9 a0_10 a0_11 a0_12 a0_13) else (impl_TaskOk0.j0 k (a0_3 != 2) a0_0 a0_1 a0_2 a0_3 a0_4 a0_5 a0_6 a0_7 a0_8 a0_9 a0_10 a0_11 a0_12 a0_13)) else (impl_TaskOk0.j0 k true a0_0 a0_1 a0_2 a0_3 a0_4 a0_5 a0_6 a0_7 a0_8 a0_9 a0_10 a0_11 a0_12 a0_13))) else (impl_TaskOk0.j0 k true a0_0 a0_1 a0_2 a0_3 a0_4 a0_5 a0_6 a0_7 a0_8 a0_9 a0_10 a0_11 a0_12 a0_13))
theorem impl_TaskOk0.mono_l : ∀ k, (∀ y0 y1 y2 y3 y4 y5 y6 y7 y8 y9 y10 y11 y12 y13 y14, LeO (impl_TaskOk0.j0 k y0 y1 y2 y3 y4 y5 y6 y7 y8 y9 y10 y11 y12 y13 y14) (impl_TaskOk0.j0 (k + 1) y0 y1 y2 y3 y4 y5 y6 y7 y8 y9 y10 y11 y12 y13 y14)) ∧ (∀ y0 y1 y2 y3 y4 y5 y6 y7 y8 y9 y10 y11 y12 y13 y14 y15 y16 y17 y18 y19 y20 y21 y22 y23 y24 y25 y26 y27, LeO (impl_TaskOk0.j1 k y0 y1 y2 y3 y4 y5 y6 y7 y8 y9 y10 y11 y12 y13 y14 y15 y16 y17 y18 y19 y20 y21 y22 y23 y24 y25 y26 y27) (impl_TaskOk0.j1 (k + 1) y0 y1 y2 y3 y4 y5 y6 y7 y8 y9 y10 y11 y12 y13 y14 y15 y16 y17 y18 y19 y20 y21 y22 y23 y24 y25 y26 y27)) ∧ (∀ y0 y1 y2 y3 y4 y5 y6 y7 y8 y9 y10 y11 y12 y13 y14 y15 y16 y17 y18 y19 y20 y21 y22 y23 y24 y25 y26 y27, LeO (impl_TaskOk0.j2 k y0 y1 y2 y3 y4 y5 y6 y7 y8 y9 y10 y11 y12 y13 y14 y15 y16 y17 y18 y19 y20 y21 y22 y23 y24 y25 y26 y27) (impl_TaskOk0.j2 (k + 1) y0 y1 y2 y3 y4 y5 y6 y7 y8 y9 y10 y11 y12 y13 y14 y15 y16 y17 y18 y19 y20 y21 y22 y23 y24 y25 y26 y27)) ∧ (∀ y0 y1 y2 y3 y4 y5 y6 y7 y8 y9 y10 y11 y12 y13 y14 y15 y16 y17 y18 y19 y20 y21 y22 y23 y24 y25 y26 y27, LeO (impl_TaskOk0.j3 k y0 y1 y2 y3 y4 y5 y6 y7 y8 y9 y10 y11 y12 y13 y14 y15 y16 y17 y18 y19 y20 y21 y22 y23 y24 y25 y26 y27) (impl_TaskOk0.j3 (k + 1) y0 y1 y2 y3 y4 y5 y6 y7 y8 y9 y10 y11 y12 y13 y14 y15 y16 y17 y18 y19 y20 y21 y22 y23 y24 y25 y26 y27))
  | 0 => ⟨fun _ _ _ _ _ _ _ _ _ _ _ _ _ _ _ r h => by simp [impl_TaskOk0.j0] at h, fun _ _ _ _ _ _ _ _ _ _ _ _ _ _ _ _ _ _ _ _ _ _ _ _ _ _ _ _ r h => by simp [impl_TaskOk0.j1] at h, fun _ _ _ _ _ _ _ _ _ _ _ _ _ _ _ _ _ _ _ _ _ _ _ _ _ _ _ _ r h => by simp [impl_TaskOk0.j2] at h, fun _ _ _ _ _ _ _ _ _ _ _ _ _ _ _ _ _ _ _ _ _ _ _ _ _ _ _ _ r h => by simp [impl_TaskOk0.j3] at h⟩
  | k + 1 => by
    obtain ⟨ih0, ih1, ih2, ih3⟩ := impl_TaskOk0.mono_l k
    refine ⟨?_, ?_, ?_, ?_⟩
    · intro y0 y1 y2 y3 y4 y5 y6 y7 y8 y9 y10 y11 y12 y13 y14
      unfold impl_TaskOk0.j0
      repeat' first
      | (with_reducible exact ih0 _ _ _ _ _ _ _ _ _ _ _ _ _ _ _)
      | (with_reducible exact ih1 _ _ _ _ _ _ _ _ _ _ _ _ _ _ _ _ _ _ _ _ _ _ _ _ _ _ _ _)
      | (with_reducible exact ih2 _ _ _ _ _ _ _ _ _ _ _ _ _ _ _ _ _ _ _ _ _ _ _ _ _ _ _ _)
      | (with_reducible exact ih3 _ _ _ _ _ _ _ _ _ _ _ _ _ _ _ _ _ _ _ _ _ _ _ _ _ _ _ _)
      | (with_reducible exact LeO.refl _)
      | (with_reducible exact LeO.none _)
      | (with_reducible refine LeO.ite ?_ ?_)
      | (with_reducible refine LeO.bind ?_ (fun _ => ?_))
      | exact ih0 _ _ _ _ _ _ _ _ _ _ _ _ _ _ _
      | exact ih1 _ _ _ _ _ _ _ _ _ _ _ _ _ _ _ _ _ _ _ _ _ _ _ _ _ _ _ _
      | exact ih2 _ _ _ _ _ _ _ _ _ _ _ _ _ _ _ _ _ _ _ _ _ _ _ _ _ _ _ _
      | exact ih3 _ _ _ _ _ _ _ _ _ _ _ _ _ _ _ _ _ _ _ _ _ _ _ _ _ _ _ _
      | exact LeO.none _
      | refine LeO.ite ?_ ?_
      | refine LeO.bind ?_ (fun _ => ?_)
    · intro y0 y1 y2 y3 y4 y5 y6 y7 y8 y9 y10 y11 y12 y13 y14 y15 y16 y17 y18 y19 y20 y21 y22 y23 y24 y25 y26 y27
      unfold impl_TaskOk0.j1
      repeat' first
      | (with_reducible exact ih0 _ _ _ _ _ _ _ _ _ _ _ _ _ _ _)
      | (with_reducible exact ih1 _ _ _ _ _ _ _ _ _ _ _ _ _ _ _ _ _ _ _ _ _ _ _ _ _ _ _ _)
      | (with_reducible exact ih2 _ _ _ _ _ _ _ _ _ _ _ _ _ _ _ _ _ _ _ _ _ _ _ _ _ _ _ _)
      | (with_reducible exact ih3 _ _ _ _ _ _ _ _ _ _ _ _ _ _ _ _ _ _ _ _ _ _ _ _ _ _ _ _)
      | (with_reducible exact LeO.refl _)
      | (with_reducible exact LeO.none _)
      | (with_reducible refine LeO.ite ?_ ?_)
      | (with_reducible refine LeO.bind ?_ (fun _ => ?_))
      | exact ih0 _ _ _ _ _ _ _ _ _ _ _ _ _ _ _
      | exact ih1 _ _ _ _ _ _ _ _ _ _ _ _ _ _ _ _ _ _ _ _ _ _ _ _ _ _ _ _
      | exact ih2 _ _ _ _ _ _ _ _ _ _ _ _ _ _ _ _ _ _ _ _ _ _ _ _ _ _ _ _
      | exact ih3 _ _ _ _ _ _ _ _ _ _ _ _ _ _ _ _ _ _ _ _ _ _ _ _ _ _ _ _
      | exact LeO.none _
      | refine LeO.ite ?_ ?_
      | refine LeO.bind ?_ (fun _ => ?_)
    · intro y0 y1 y2 y3 y4 y5 y6 y7 y8 y9 y10 y11 y12 y13 y14 y15 y16 y17 y18 y19 y20 y21 y22 y23 y24 y25 y26 y27
      unfold impl_TaskOk0.j2
      repeat' first
      | (with_reducible exact ih0 _ _ _ _ _ _ _ _ _ _ _ _ _ _ _)
      | (with_reducible exact ih1 _ _ _ _ _ _ _ _ _ _ _ _ _ _ _ _ _ _ _ _ _ _ _ _ _ _ _ _)
      | (with_reducible exact ih2 _ _ _ _ _ _ _ _ _ _ _ _ _ _ _ _ _ _ _ _ _ _ _ _ _ _ _ _)
      | (with_reducible exact ih3 _ _ _ _ _ _ _ _ _ _ _ _ _ _ _ _ _ _ _ _ _ _ _ _ _ _ _ _)
      | (with_reducible exact LeO.refl _)
      | (with_reducible exact LeO.none _)
      | (with_reducible refine LeO.ite ?_ ?_)
      | (with_reducible refine LeO.bind ?_ (fun _ => ?_))
      | exact ih0 _ _ _ _ _ _ _ _ _ _ _ _ _ _ _
      | exact ih1 _ _ _ _ _ _ _ _ _ _ _ _ _ _ _ _ _ _ _ _ _ _ _ _ _ _ _ _
      | exact ih2 _ _ _ _ _ _ _ _ _ _ _ _ _ _ _ _ _ _ _ _ _ _ _ _ _ _ _ _
      | exact ih3 _ _ _ _ _ _ _ _ _ _ _ _ _ _ _ _ _ _ _ _ _ _ _ _ _ _ _ _
      | exact LeO.none _
      | refine LeO.ite ?_ ?_
      | refine LeO.bind ?_ (fun _ => ?_)
    · intro y0 y1 y2 y3 y4 y5 y6 y7 y8 y9 y10 y11 y12 y13 y14 y15 y16 y17 y18 y19 y20 y21 y22 y23 y24 y25 y26 y27
      unfold impl_TaskOk0.j3
      repeat' first
      | (with_reducible exact ih0 _ _ _ _ _ _ _ _ _ _ _ _ _ _ _)
      | (with_reducible exact ih1 _ _ _ _ _ _ _ _ _ _ _ _ _ _ _ _ _ _ _ _ _ _ _ _ _ _ _ _)
      | (with_reducible exact ih2 _ _ _ _ _ _ _ _ _ _ _ _ _ _ _ _ _ _ _ _ _ _ _ _ _ _ _ _)
      | (with_reducible exact ih3 _ _ _ _ _ _ _ _ _ _ _ _ _ _ _ _ _ _ _ _ _ _ _ _ _ _ _ _)
      | (with_reducible exact LeO.refl _)
      | (with_reducible exact LeO.none _)
      | (with_reducible refine LeO.ite ?_ ?_)
      | (with_reducible refine LeO.bind ?_ (fun _ => ?_))
      | exact ih0 _ _ _ _ _ _ _ _ _ _ _ _ _ _ _
      | exact ih1 _ _ _ _ _ _ _ _ _ _ _ _ _ _ _ _ _ _ _ _ _ _ _ _ _ _ _ _
      | exact ih2 _ _ _ _ _ _ _ _ _ _ _ _ _ _ _ _ _ _ _ _ _ _ _ _ _ _ _ _
      | exact ih3 _ _ _ _ _ _ _ _ _ _ _ _ _ _ _ _ _ _ _ _ _ _ _ _ _ _ _ _
      | exact LeO.none _
      | refine LeO.ite ?_ ?_
      | refine LeO.bind ?_ (fun _ => ?_)
theorem impl_TaskOk0.mono : ∀ a0 a1 a2 a3 a4 a5 a6 a7 a8 a9 a10 a11 a12 a13 k, LeO (impl_TaskOk0.f k a0 a1 a2 a3 a4 a5 a6 a7 a8 a9 a10 a11 a12 a13) (impl_TaskOk0.f (k + 1) a0 a1 a2 a3 a4 a5 a6 a7 a8 a9 a10 a11 a12 a13) := by
  intro a0 a1 a2 a3 a4 a5 a6 a7 a8 a9 a10 a11 a12 a13 k
  obtain ⟨ih0, ih1, ih2, ih3⟩ := impl_TaskOk0.mono_l k
  unfold impl_TaskOk0.f
  repeat' first
      | (with_reducible exact ih0 _ _ _ _ _ _ _ _ _ _ _ _ _ _ _)
      | (with_reducible exact ih1 _ _ _ _ _ _ _ _ _ _ _ _ _ _ _ _ _ _ _ _ _ _ _ _ _ _ _ _)
      | (with_reducible exact ih2 _ _ _ _ _ _ _ _ _ _ _ _ _ _ _ _ _ _ _ _ _ _ _ _ _ _ _ _)
      | (with_reducible exact ih3 _ _ _ _ _ _ _ _ _ _ _ _ _ _ _ _ _ _ _ _ _ _ _ _ _ _ _ _)
      | (with_reducible exact LeO.refl _)
      | (with_reducible exact LeO.none _)
      | (with_reducible refine LeO.ite ?_ ?_)
      | (with_reducible refine LeO.bind ?_ (fun _ => ?_))
      | exact ih0 _ _ _ _ _ _ _ _ _ _ _ _ _ _ _
      | exact ih1 _ _ _ _ _ _ _ _ _ _ _ _ _ _ _ _ _ _ _ _ _ _ _ _ _ _ _ _
      | exact ih2 _ _ _ _ _ _ _ _ _ _ _ _ _ _ _ _ _ _ _ _ _ _ _ _ _ _ _ _
      | exact ih3 _ _ _ _ _ _ _ _ _ _ _ _ _ _ _ _ _ _ _ _ _ _ _ _ _ _ _ _
      | exact LeO.none _
      | refine LeO.ite ?_ ?_
      | refine LeO.bind ?_ (fun _ => ?_)
def impl_TaskOk0.T7 : Bool × List (List Nat × List Nat) := (true, [([], []), ([0], [0]), ([], []), ([2], [2]), ([], []), ([4], [4]), ([], []), ([6], [6]), ([0, 1], []), ([8, 1, 0, 1], [1, 8]), ([0, 1, 2, 3, 8, 9], []), ([10, 3, 9, 0, 1, 2, 3, 8, 9], [3, 10]), ([0, 1, 2, 3, 4, 5, 8, 9, 10, 11], []), ([12, 5, 11, 0, 1, 2, 3, 4, 5, 8, 9, 10, 11], [5, 12]), ([0, 1, 2, 3, 4, 5, 6, 7, 8, 9, 10, 11, 12, 13], []), ([14, 7, 13, 0, 1, 2, 3, 4, 5, 6, 7, 8, 9, 10, 11, 12, 13], [7, 14])])
def impl_TaskOk0.B7 : List Nat := [0, 1, 0, 4, 0, 16, 0, 64, 3, 259, 783, 1807, 3903, 7999, 16383, 32767]
theorem impl_TaskOk0.tab7 : rtab .any (opsOf Try.f36 7) = impl_TaskOk0.T7 := by kernel_rfl
theorem impl_TaskOk0.bits7 : waitsOk impl_TaskOk0.T7.2 impl_TaskOk0.B7 = true := by kernel_rfl
def impl_TaskOk0.T10 : Bool × List (List Nat × List Nat) := (true, [([], []), ([0], [0]), ([], []), ([2], [2]), ([], []), ([4], [4]), ([], []), ([6], [6]), ([0, 1], []), ([8, 1, 0, 1], [1, 8]), ([0, 1, 2, 3, 8, 9], []), ([10, 3, 9, 0, 1, 2, 3, 8, 9], [3, 10]), ([0, 1, 2, 3, 4, 5, 8, 9, 10, 11], []), ([12, 5, 11, 0, 1, 2, 3, 4, 5, 8, 9, 10, 11], [5, 12]), ([0, 1, 2, 3, 4, 5, 6, 7, 8, 9, 10, 11, 12, 13], []), ([14, 7, 13, 0, 1, 2, 3, 4, 5, 6, 7, 8, 9, 10, 11, 12, 13], [7, 14])])
def impl_TaskOk0.B10 : List Nat := [0, 1, 0, 4, 0, 16, 0, 64, 3, 259, 783, 1807, 3903, 7999, 16383, 32767]
theorem impl_TaskOk0.tab10 : rtab .any (opsOf Try.f36 10) = impl_TaskOk0.T10 := by kernel_rfl
theorem impl_TaskOk0.bits10 : waitsOk impl_TaskOk0.T10.2 impl_TaskOk0.B10 = true := by kernel_rfl
def impl_TaskOk0.T13 : Bool × List (List Nat × List Nat) := (true, [([], []), ([0], [0]), ([], []), ([2], [2]), ([0, 1], []), ([4, 1, 0, 1], [1, 4]), ([0, 1, 2, 3, 4, 5], []), ([6, 3, 5, 0, 1, 2, 3, 4, 5], [3, 6])])
def impl_TaskOk0.B13 : List Nat := [0, 1, 0, 4, 3, 19, 63, 127]
theorem impl_TaskOk0.tab13 : rtab .any (opsOf Try.f36 13) = impl_TaskOk0.T13 := by kernel_rfl
theorem impl_TaskOk0.bits13 : waitsOk impl_TaskOk0.T13.2 impl_TaskOk0.B13 = true := by kernel_rfl
set_option maxHeartbeats 8000000 in
set_option maxRecDepth 100000 in
theorem impl_TaskOk0.calls (k : Nat) (a0_0 : Int) (a0_1 : Int) (a0_2 : Int) (a0_3 : Int) (a0_4 : Bool) (a0_5 : Int) (a0_6 : Int) (a0_7 : Int) (a0_8 : Int) (a0_9 : Int) (a0_10 : Int) (a0_11 : Int) (a0_12 : Int) (a0_13 : Int) (r : Bool) (w : World) (h : impl_TaskOk0.f k a0_0 a0_1 a0_2 a0_3 a0_4 a0_5 a0_6 a0_7 a0_8 a0_9 a0_10 a0_11 a0_12 a0_13 = some r) :
    Calls Try.prog 36 #[.agg #[.int .i64 a0_0, .int .i64 a0_1, .int .i64 a0_2, .int .i64 a0_3, .bool a0_4, .int .i64 a0_5, .int .i64 a0_6, .int .i64 a0_7, .int .i64 a0_8, .int .i64 a0_9, .int .i64 a0_10, .int .i64 a0_11, .int .i64 a0_12, .int .i64 a0_13]] w fun e w' => e = .returned (.bool r) ∧ Below w.heap.size w w' := by
  have hu48 := Try.underlying48
  have hu27 := Try.underlying27
  have HB := Aside0.mk (Below.refl w.heap.size w)
  have H : ((impl_isNo.f a0_0).bind fun t281 => (if t281 = true then ((impl_in.f a0_2 0 3).bind fun t282 => (if t282 = true then (if a0_3 = 1 then (impl_TaskOk0.j0 k false a0_0 a0_1 a0_2 a0_3 a0_4 a0_5 a0_6 a0_7 a0_8 a0_9 a0_10 a0_11 a0_12 a0_13) else (impl_TaskOk0.j0 k (a0_3 != 2) a0_0 a0_1 a0_2 a0_3 a0_4 a0_5 a0_6 a0_7 a0_8 a0_9 a0_10 a0_11 a0_12 a0_13)) else (impl_TaskOk0.j0 k true a0_0 a0_1 a0_2 a0_3 a0_4 a0_5 a0_6 a0_7 a0_8 a0_9 a0_10 a0_11 a0_12 a0_13))) else (impl_TaskOk0.j0 k true a0_0 a0_1 a0_2 a0_3 a0_4 a0_5 a0_6 a0_7 a0_8 a0_9 a0_10 a0_11 a0_12 a0_13))) = some r := h
  clear h
  have HC2 := Aside0.mk H
  clear H
  go_enter Try.func36, Try.ntmps36
  go_upto_region 1 with (first | ((with_reducible refine gate_dst (N := 1) rfl ?_); (try (refine gate_guard (by rfl) ?_; dsimp only)); refine box_event ?hg (N := 1) ?hd (cs := #[.int .i64 a0_0, .int .i64 a0_1, .int .i64 a0_2, .int .i64 a0_3, .bool a0_4, .int .i64 a0_5, .int .i64 a0_6, .int .i64 a0_7, .int .i64 a0_8, .int .i64 a0_9, .int .i64 a0_10, .int .i64 a0_11, .int .i64 a0_12, .int .i64 a0_13]) (t := 48) ?hr ?_; (case hd => rfl); (case hg => rfl); (case hr => first | (go_simp; done) | (go_simp; rfl)); intro gb280 hg w3 hbox hb; have n0_ := Aside0.mk (below_step (by repeat (first | (with_reducible first | exact HB.out | apply below_alloc | apply pw_below_drewN | apply below_drew1) | exact HB.out)) hb); have n1_ := Aside0.mk (hbox); have n2_ := Aside0.mk ((by rw [hg]; exact (below_size (by repeat (first | (with_reducible first | exact HB.out | apply below_alloc | apply pw_below_drewN | apply below_drew1) | exact HB.out))) : w.heap.size ≤ gb280)); have n3_ := Aside0.mk ((by rw [hg]; exact (below_size (by repeat (first | (with_reducible first | exact HB.out | apply below_alloc | apply pw_below_drewN | apply below_drew1) | exact HB.out))) : w.heap.size ≤ gb280)); clear HB; have HB := n0_; have BK280 := n1_; have GW280 := n2_; have GE280 := n3_; clear n0_ n1_ n2_ n3_; clear hb hbox hg))
  (try simp only [Act.put, List.setIfInBounds_toArray, List.set_cons_zero, List.set_cons_succ])
  go_cut [24] (fun v24 wc => ∃ (kq : Nat) (x24_1 : Bool), v24 = .bool x24_1 ∧ Aside0 (impl_TaskOk0.j0 kq x24_1 a0_0 a0_1 a0_2 a0_3 a0_4 a0_5 a0_6 a0_7 a0_8 a0_9 a0_10 a0_11 a0_12 a0_13 = some r) ∧ Aside0 (kq ≤ k) ∧ Aside0 (wc.heap[gb280]? = some (.cells #[.int .i64 a0_0, .int .i64 a0_1, .int .i64 a0_2, .int .i64 a0_3, .bool a0_4, .int .i64 a0_5, .int .i64 a0_6, .int .i64 a0_7, .int .i64 a0_8, .int .i64 a0_9, .int .i64 a0_10, .int .i64 a0_11, .int .i64 a0_12, .int .i64 a0_13] 48 (0, 0))) ∧ Aside0 (Below w.heap.size w wc))
  case first =>
    have H := HC2.out
    clear HC2
    replace H := Option.bind_eq_some_iff.mp H
    obtain ⟨t281, A40, H⟩ := H
    replace H : (if t281 = true then ((impl_in.f a0_2 0 3).bind fun t282 => (if t282 = true then (if a0_3 = 1 then (impl_TaskOk0.j0 k false a0_0 a0_1 a0_2 a0_3 a0_4 a0_5 a0_6 a0_7 a0_8 a0_9 a0_10 a0_11 a0_12 a0_13) else (impl_TaskOk0.j0 k (a0_3 != 2) a0_0 a0_1 a0_2 a0_3 a0_4 a0_5 a0_6 a0_7 a0_8 a0_9 a0_10 a0_11 a0_12 a0_13)) else (impl_TaskOk0.j0 k true a0_0 a0_1 a0_2 a0_3 a0_4 a0_5 a0_6 a0_7 a0_8 a0_9 a0_10 a0_11 a0_12 a0_13))) else (impl_TaskOk0.j0 k true a0_0 a0_1 a0_2 a0_3 a0_4 a0_5 a0_6 a0_7 a0_8 a0_9 a0_10 a0_11 a0_12 a0_13)) = some r := H
    have A4 := Aside0.mk A40
    clear A40
    by_cases c5 : t281 = true
    · subst c5
      have H1 : ((impl_in.f a0_2 0 3).bind fun t282 => (if t282 = true then (if a0_3 = 1 then (impl_TaskOk0.j0 k false a0_0 a0_1 a0_2 a0_3 a0_4 a0_5 a0_6 a0_7 a0_8 a0_9 a0_10 a0_11 a0_12 a0_13) else (impl_TaskOk0.j0 k (a0_3 != 2) a0_0 a0_1 a0_2 a0_3 a0_4 a0_5 a0_6 a0_7 a0_8 a0_9 a0_10 a0_11 a0_12 a0_13)) else (impl_TaskOk0.j0 k true a0_0 a0_1 a0_2 a0_3 a0_4 a0_5 a0_6 a0_7 a0_8 a0_9 a0_10 a0_11 a0_12 a0_13))) = some r := by rw [if_pos rfl] at H; exact H
      clear H
      have H := H1
      clear H1
      replace H := Option.bind_eq_some_iff.mp H
      obtain ⟨t282, A60, H⟩ := H
      replace H : (if t282 = true then (if a0_3 = 1 then (impl_TaskOk0.j0 k false a0_0 a0_1 a0_2 a0_3 a0_4 a0_5 a0_6 a0_7 a0_8 a0_9 a0_10 a0_11 a0_12 a0_13) else (impl_TaskOk0.j0 k (a0_3 != 2) a0_0 a0_1 a0_2 a0_3 a0_4 a0_5 a0_6 a0_7 a0_8 a0_9 a0_10 a0_11 a0_12 a0_13)) else (impl_TaskOk0.j0 k true a0_0 a0_1 a0_2 a0_3 a0_4 a0_5 a0_6 a0_7 a0_8 a0_9 a0_10 a0_11 a0_12 a0_13)) = some r := H
      have A6 := Aside0.mk A60
      clear A60
      by_cases c7 : t282 = true
      · subst c7
        have H1 : (if a0_3 = 1 then (impl_TaskOk0.j0 k false a0_0 a0_1 a0_2 a0_3 a0_4 a0_5 a0_6 a0_7 a0_8 a0_9 a0_10 a0_11 a0_12 a0_13) else (impl_TaskOk0.j0 k (a0_3 != 2) a0_0 a0_1 a0_2 a0_3 a0_4 a0_5 a0_6 a0_7 a0_8 a0_9 a0_10 a0_11 a0_12 a0_13)) = some r := by rw [if_pos rfl] at H; exact H
        clear H
        have H := H1
        clear H1
        by_cases c8 : a0_3 = 1
        · rw [if_pos c8] at H
          have c8b0 : (a0_3 == 1) = true := beq_iff_eq.mpr c8
          have c8b1 : (a0_3 != 1) = false := bne_eq_false_iff_eq.mpr c8
          clear c8
          (first | rw [c8b0] | (simp only [i64_w, i32_w]; rw [c8b0]) | skip)
          have H' := Aside0.mk H
          clear H
          have hcz9_0 : w3.cell? ⟨gb280, 0, none⟩ = some (.int .i64 a0_0) := (blk_cell BK280.out 0).trans rfl
          have hcz9_1 : w3.cell? ⟨gb280, 1, none⟩ = some (.int .i64 a0_1) := (blk_cell BK280.out 1).trans rfl
          have hcz9_2 : w3.cell? ⟨gb280, 2, none⟩ = some (.int .i64 a0_2) := (blk_cell BK280.out 2).trans rfl
          have hcz9_3 : w3.cell? ⟨gb280, 3, none⟩ = some (.int .i64 a0_3) := (blk_cell BK280.out 3).trans rfl
          have hcz9_4 : w3.cell? ⟨gb280, 4, none⟩ = some (.bool a0_4) := (blk_cell BK280.out 4).trans rfl
          have hcz9_5 : w3.cell? ⟨gb280, 5, none⟩ = some (.int .i64 a0_5) := (blk_cell BK280.out 5).trans rfl
          have hcz9_6 : w3.cell? ⟨gb280, 6, none⟩ = some (.int .i64 a0_6) := (blk_cell BK280.out 6).trans rfl
          have hcz9_7 : w3.cell? ⟨gb280, 7, none⟩ = some (.int .i64 a0_7) := (blk_cell BK280.out 7).trans rfl
          have hcz9_8 : w3.cell? ⟨gb280, 8, none⟩ = some (.int .i64 a0_8) := (blk_cell BK280.out 8).trans rfl
          have hcz9_9 : w3.cell? ⟨gb280, 9, none⟩ = some (.int .i64 a0_9) := (blk_cell BK280.out 9).trans rfl
          have hcz9_10 : w3.cell? ⟨gb280, 10, none⟩ = some (.int .i64 a0_10) := (blk_cell BK280.out 10).trans rfl
          have hcz9_11 : w3.cell? ⟨gb280, 11, none⟩ = some (.int .i64 a0_11) := (blk_cell BK280.out 11).trans rfl
          have hcz9_12 : w3.cell? ⟨gb280, 12, none⟩ = some (.int .i64 a0_12) := (blk_cell BK280.out 12).trans rfl
          have hcz9_13 : w3.cell? ⟨gb280, 13, none⟩ = some (.int .i64 a0_13) := (blk_cell BK280.out 13).trans rfl
          have hfz9_0 := blk_frozen BK280.out 0
          have hfz9_1 := blk_frozen BK280.out 1
          have hfz9_2 := blk_frozen BK280.out 2
          have hfz9_3 := blk_frozen BK280.out 3
          have hfz9_4 := blk_frozen BK280.out 4
          have hfz9_5 := blk_frozen BK280.out 5
          have hfz9_6 := blk_frozen BK280.out 6
          have hfz9_7 := blk_frozen BK280.out 7
          have hfz9_8 := blk_frozen BK280.out 8
          have hfz9_9 := blk_frozen BK280.out 9
          have hfz9_10 := blk_frozen BK280.out 10
          have hfz9_11 := blk_frozen BK280.out 11
          have hfz9_12 := blk_frozen BK280.out 12
          have hfz9_13 := blk_frozen BK280.out 13
          go_wp2_with (first | ((with_reducible refine gate_callee (f := 51) rfl ?_); refine goesL_ (some 7) rfl rfl Try.func51 (by kernel_rfl) rfl #[.int .i64 a0_0] rfl (by (try simp only [List.map_toArray, List.map_cons, List.map_nil]); first | done | rfl | (simp only [List.length_drop, List.length_take]; rfl)) ?_; (with_reducible refine (impl_isNo.calls a0_0 true _ A4.out).mono ?_); rintro e w' ⟨rfl, ⟨nd, rfl⟩⟩; refine ⟨_, rfl, ?_⟩) | (go_at_call 42; (with_reducible refine (impl_in.calls a0_2 0 3 true _ A6.out).mono ?_); rintro e w' ⟨rfl, ⟨nd, rfl⟩⟩))
          go_meet
          case rel => exact ⟨_, (false), (by first | rfl | (simp; done) | (simp [*]; done)), H', ⟨by first | omega | exact Nat.le_refl _⟩, ⟨by (with_reducible repeat (first | refine blk_drewN ?_ _ | refine blk_drew ?_ | refine blk_alloc ?_ _)); exact BK280.out⟩, ⟨by repeat (first | (with_reducible first | exact HB.out | apply below_alloc | apply pw_below_drewN | apply below_drew1 | refine below_set ?_ GE280.out) | exact HB.out)⟩⟩
        · rw [if_neg c8] at H
          have c8b0 : (a0_3 == 1) = false := beq_eq_false_iff_ne.mpr c8
          have c8b1 : (a0_3 != 1) = true := bne_iff_ne.mpr c8
          (first | rw [c8b0] | (simp only [i64_w, i32_w]; rw [c8b0]) | skip)
          have H' := Aside0.mk H
          clear H
          have hcz10_0 : w3.cell? ⟨gb280, 0, none⟩ = some (.int .i64 a0_0) := (blk_cell BK280.out 0).trans rfl
          have hcz10_1 : w3.cell? ⟨gb280, 1, none⟩ = some (.int .i64 a0_1) := (blk_cell BK280.out 1).trans rfl
          have hcz10_2 : w3.cell? ⟨gb280, 2, none⟩ = some (.int .i64 a0_2) := (blk_cell BK280.out 2).trans rfl
          have hcz10_3 : w3.cell? ⟨gb280, 3, none⟩ = some (.int .i64 a0_3) := (blk_cell BK280.out 3).trans rfl
          have hcz10_4 : w3.cell? ⟨gb280, 4, none⟩ = some (.bool a0_4) := (blk_cell BK280.out 4).trans rfl
          have hcz10_5 : w3.cell? ⟨gb280, 5, none⟩ = some (.int .i64 a0_5) := (blk_cell BK280.out 5).trans rfl
          have hcz10_6 : w3.cell? ⟨gb280, 6, none⟩ = some (.int .i64 a0_6) := (blk_cell BK280.out 6).trans rfl
          have hcz10_7 : w3.cell? ⟨gb280, 7, none⟩ = some (.int .i64 a0_7) := (blk_cell BK280.out 7).trans rfl
          have hcz10_8 : w3.cell? ⟨gb280, 8, none⟩ = some (.int .i64 a0_8) := (blk_cell BK280.out 8).trans rfl
          have hcz10_9 : w3.cell? ⟨gb280, 9, none⟩ = some (.int .i64 a0_9) := (blk_cell BK280.out 9).trans rfl
          have hcz10_10 : w3.cell? ⟨gb280, 10, none⟩ = some (.int .i64 a0_10) := (blk_cell BK280.out 10).trans rfl
          have hcz10_11 : w3.cell? ⟨gb280, 11, none⟩ = some (.int .i64 a0_11) := (blk_cell BK280.out 11).trans rfl
          have hcz10_12 : w3.cell? ⟨gb280, 12, none⟩ = some (.int .i64 a0_12) := (blk_cell BK280.out 12).trans rfl
          have hcz10_13 : w3.cell? ⟨gb280, 13, none⟩ = some (.int .i64 a0_13) := (blk_cell BK280.out 13).trans rfl
          have hfz10_0 := blk_frozen BK280.out 0
          have hfz10_1 := blk_frozen BK280.out 1
          have hfz10_2 := blk_frozen BK280.out 2
          have hfz10_3 := blk_frozen BK280.out 3
          have hfz10_4 := blk_frozen BK280.out 4
          have hfz10_5 := blk_frozen BK280.out 5
          have hfz10_6 := blk_frozen BK280.out 6
          have hfz10_7 := blk_frozen BK280.out 7
          have hfz10_8 := blk_frozen BK280.out 8
          have hfz10_9 := blk_frozen BK280.out 9
          have hfz10_10 := blk_frozen BK280.out 10
          have hfz10_11 := blk_frozen BK280.out 11
          have hfz10_12 := blk_frozen BK280.out 12
          have hfz10_13 := blk_frozen BK280.out 13
          go_wp2_with (first | ((with_reducible refine gate_callee (f := 51) rfl ?_); refine goesL_ (some 7) rfl rfl Try.func51 (by kernel_rfl) rfl #[.int .i64 a0_0] rfl (by (try simp only [List.map_toArray, List.map_cons, List.map_nil]); first | done | rfl | (simp only [List.length_drop, List.length_take]; rfl)) ?_; (with_reducible refine (impl_isNo.calls a0_0 true _ A4.out).mono ?_); rintro e w' ⟨rfl, ⟨nd, rfl⟩⟩; refine ⟨_, rfl, ?_⟩) | (go_at_call 42; (with_reducible refine (impl_in.calls a0_2 0 3 true _ A6.out).mono ?_); rintro e w' ⟨rfl, ⟨nd, rfl⟩⟩))
          go_meet
          case rel => exact ⟨_, ((a0_3 != 2)), (by first | rfl | (simp; done) | (simp [*]; done)), H', ⟨by first | omega | exact Nat.le_refl _⟩, ⟨by (with_reducible repeat (first | refine blk_drewN ?_ _ | refine blk_drew ?_ | refine blk_alloc ?_ _)); exact BK280.out⟩, ⟨by repeat (first | (with_reducible first | exact HB.out | apply below_alloc | apply pw_below_drewN | apply below_drew1 | refine below_set ?_ GE280.out) | exact HB.out)⟩⟩
      · replace c7 := Bool.eq_false_iff.mpr c7
        subst c7
        have H1 : (impl_TaskOk0.j0 k true a0_0 a0_1 a0_2 a0_3 a0_4 a0_5 a0_6 a0_7 a0_8 a0_9 a0_10 a0_11 a0_12 a0_13) = some r := by rw [if_neg (show ¬ (false = true) by decide)] at H; exact H
        clear H
        have H := H1
        clear H1
        have H' := Aside0.mk H
        clear H
        have hcz11_0 : w3.cell? ⟨gb280, 0, none⟩ = some (.int .i64 a0_0) := (blk_cell BK280.out 0).trans rfl
        have hcz11_1 : w3.cell? ⟨gb280, 1, none⟩ = some (.int .i64 a0_1) := (blk_cell BK280.out 1).trans rfl
        have hcz11_2 : w3.cell? ⟨gb280, 2, none⟩ = some (.int .i64 a0_2) := (blk_cell BK280.out 2).trans rfl
        have hcz11_3 : w3.cell? ⟨gb280, 3, none⟩ = some (.int .i64 a0_3) := (blk_cell BK280.out 3).trans rfl
        have hcz11_4 : w3.cell? ⟨gb280, 4, none⟩ = some (.bool a0_4) := (blk_cell BK280.out 4).trans rfl
        have hcz11_5 : w3.cell? ⟨gb280, 5, none⟩ = some (.int .i64 a0_5) := (blk_cell BK280.out 5).trans rfl
        have hcz11_6 : w3.cell? ⟨gb280, 6, none⟩ = some (.int .i64 a0_6) := (blk_cell BK280.out 6).trans rfl
        have hcz11_7 : w3.cell? ⟨gb280, 7, none⟩ = some (.int .i64 a0_7) := (blk_cell BK280.out 7).trans rfl
        have hcz11_8 : w3.cell? ⟨gb280, 8, none⟩ = some (.int .i64 a0_8) := (blk_cell BK280.out 8).trans rfl
        have hcz11_9 : w3.cell? ⟨gb280, 9, none⟩ = some (.int .i64 a0_9) := (blk_cell BK280.out 9).trans rfl
        have hcz11_10 : w3.cell? ⟨gb280, 10, none⟩ = some (.int .i64 a0_10) := (blk_cell BK280.out 10).trans rfl
        have hcz11_11 : w3.cell? ⟨gb280, 11, none⟩ = some (.int .i64 a0_11) := (blk_cell BK280.out 11).trans rfl
        have hcz11_12 : w3.cell? ⟨gb280, 12, none⟩ = some (.int .i64 a0_12) := (blk_cell BK280.out 12).trans rfl
        have hcz11_13 : w3.cell? ⟨gb280, 13, none⟩ = some (.int .i64 a0_13) := (blk_cell BK280.out 13).trans rfl
        have hfz11_0 := blk_frozen BK280.out 0
        have hfz11_1 := blk_frozen BK280.out 1
        have hfz11_2 := blk_frozen BK280.out 2
        have hfz11_3 := blk_frozen BK280.out 3
        have hfz11_4 := blk_frozen BK280.out 4
        have hfz11_5 := blk_frozen BK280.out 5
        have hfz11_6 := blk_frozen BK280.out 6
        have hfz11_7 := blk_frozen BK280.out 7
        have hfz11_8 := blk_frozen BK280.out 8
        have hfz11_9 := blk_frozen BK280.out 9
        have hfz11_10 := blk_frozen BK280.out 10
        have hfz11_11 := blk_frozen BK280.out 11
        have hfz11_12 := blk_frozen BK280.out 12
        have hfz11_13 := blk_frozen BK280.out 13
        go_wp2_with (first | ((with_reducible refine gate_callee (f := 51) rfl ?_); refine goesL_ (some 7) rfl rfl Try.func51 (by kernel_rfl) rfl #[.int .i64 a0_0] rfl (by (try simp only [List.map_toArray, List.map_cons, List.map_nil]); first | done | rfl | (simp only [List.length_drop, List.length_take]; rfl)) ?_; (with_reducible refine (impl_isNo.calls a0_0 true _ A4.out).mono ?_); rintro e w' ⟨rfl, ⟨nd, rfl⟩⟩; refine ⟨_, rfl, ?_⟩) | (go_at_call 42; (with_reducible refine (impl_in.calls a0_2 0 3 false _ A6.out).mono ?_); rintro e w' ⟨rfl, ⟨nd, rfl⟩⟩))
        go_meet
        case rel => exact ⟨_, (true), (by first | rfl | (simp; done) | (simp [*]; done)), H', ⟨by first | omega | exact Nat.le_refl _⟩, ⟨by (with_reducible repeat (first | refine blk_drewN ?_ _ | refine blk_drew ?_ | refine blk_alloc ?_ _)); exact BK280.out⟩, ⟨by repeat (first | (with_reducible first | exact HB.out | apply below_alloc | apply pw_below_drewN | apply below_drew1 | refine below_set ?_ GE280.out) | exact HB.out)⟩⟩
    · replace c5 := Bool.eq_false_iff.mpr c5
      subst c5
      have H1 : (impl_TaskOk0.j0 k true a0_0 a0_1 a0_2 a0_3 a0_4 a0_5 a0_6 a0_7 a0_8 a0_9 a0_10 a0_11 a0_12 a0_13) = some r := by rw [if_neg (show ¬ (false = true) by decide)] at H; exact H
      clear H
      have H := H1
      clear H1
      have H' := Aside0.mk H
      clear H
      have hcz12_0 : w3.cell? ⟨gb280, 0, none⟩ = some (.int .i64 a0_0) := (blk_cell BK280.out 0).trans rfl
      have hcz12_1 : w3.cell? ⟨gb280, 1, none⟩ = some (.int .i64 a0_1) := (blk_cell BK280.out 1).trans rfl
      have hcz12_2 : w3.cell? ⟨gb280, 2, none⟩ = some (.int .i64 a0_2) := (blk_cell BK280.out 2).trans rfl
      have hcz12_3 : w3.cell? ⟨gb280, 3, none⟩ = some (.int .i64 a0_3) := (blk_cell BK280.out 3).trans rfl
      have hcz12_4 : w3.cell? ⟨gb280, 4, none⟩ = some (.bool a0_4) := (blk_cell BK280.out 4).trans rfl
      have hcz12_5 : w3.cell? ⟨gb280, 5, none⟩ = some (.int .i64 a0_5) := (blk_cell BK280.out 5).trans rfl
      have hcz12_6 : w3.cell? ⟨gb280, 6, none⟩ = some (.int .i64 a0_6) := (blk_cell BK280.out 6).trans rfl
      have hcz12_7 : w3.cell? ⟨gb280, 7, none⟩ = some (.int .i64 a0_7) := (blk_cell BK280.out 7).trans rfl
      have hcz12_8 : w3.cell? ⟨gb280, 8, none⟩ = some (.int .i64 a0_8) := (blk_cell BK280.out 8).trans rfl
      have hcz12_9 : w3.cell? ⟨gb280, 9, none⟩ = some (.int .i64 a0_9) := (blk_cell BK280.out 9).trans rfl
      have hcz12_10 : w3.cell? ⟨gb280, 10, none⟩ = some (.int .i64 a0_10) := (blk_cell BK280.out 10).trans rfl
      have hcz12_11 : w3.cell? ⟨gb280, 11, none⟩ = some (.int .i64 a0_11) := (blk_cell BK280.out 11).trans rfl
      have hcz12_12 : w3.cell? ⟨gb280, 12, none⟩ = some (.int .i64 a0_12) := (blk_cell BK280.out 12).trans rfl
      have hcz12_13 : w3.cell? ⟨gb280, 13, none⟩ = some (.int .i64 a0_13) := (blk_cell BK280.out 13).trans rfl
      have hfz12_0 := blk_frozen BK280.out 0
      have hfz12_1 := blk_frozen BK280.out 1
      have hfz12_2 := blk_frozen BK280.out 2
      have hfz12_3 := blk_frozen BK280.out 3
      have hfz12_4 := blk_frozen BK280.out 4
      have hfz12_5 := blk_frozen BK280.out 5
      have hfz12_6 := blk_frozen BK280.out 6
      have hfz12_7 := blk_frozen BK280.out 7
      have hfz12_8 := blk_frozen BK280.out 8
      have hfz12_9 := blk_frozen BK280.out 9
      have hfz12_10 := blk_frozen BK280.out 10
      have hfz12_11 := blk_frozen BK280.out 11
      have hfz12_12 := blk_frozen BK280.out 12
      have hfz12_13 := blk_frozen BK280.out 13
      go_wp2_with (first | ((with_reducible refine gate_callee (f := 51) rfl ?_); refine goesL_ (some 7) rfl rfl Try.func51 (by kernel_rfl) rfl #[.int .i64 a0_0] rfl (by (try simp only [List.map_toArray, List.map_cons, List.map_nil]); first | done | rfl | (simp only [List.length_drop, List.length_take]; rfl)) ?_; (with_reducible refine (impl_isNo.calls a0_0 false _ A4.out).mono ?_); rintro e w' ⟨rfl, ⟨nd, rfl⟩⟩; refine ⟨_, rfl, ?_⟩))
      go_meet
      case rel => exact ⟨_, (true), (by first | rfl | (simp; done) | (simp [*]; done)), H', ⟨by first | omega | exact Nat.le_refl _⟩, ⟨by (with_reducible repeat (first | refine blk_drewN ?_ _ | refine blk_drew ?_ | refine blk_alloc ?_ _)); exact BK280.out⟩, ⟨by repeat (first | (with_reducible first | exact HB.out | apply below_alloc | apply pw_below_drewN | apply below_drew1 | refine below_set ?_ GE280.out) | exact HB.out)⟩⟩
  case rest =>
    clear HC2
    try clear p2
    try clear c3
    try clear c5
    try clear c7
    try clear c8
    try clear c8b0
    try clear c8b1
    try clear hcz10_0
    try clear hcz10_1
    try clear hcz10_10
    try clear hcz10_11
    try clear hcz10_12
    try clear hcz10_13
    try clear hcz10_2
    try clear hcz10_3
    try clear hcz10_4
    try clear hcz10_5
    try clear hcz10_6
    try clear hcz10_7
    try clear hcz10_8
    try clear hcz10_9
    try clear hcz11_0
    try clear hcz11_1
    try clear hcz11_10
    try clear hcz11_11
    try clear hcz11_12
    try clear hcz11_13
    try clear hcz11_2
    try clear hcz11_3
    try clear hcz11_4
    try clear hcz11_5
    try clear hcz11_6
    try clear hcz11_7
    try clear hcz11_8
    try clear hcz11_9
    try clear hcz12_0
    try clear hcz12_1
    try clear hcz12_10
    try clear hcz12_11
    try clear hcz12_12
    try clear hcz12_13
    try clear hcz12_2
    try clear hcz12_3
    try clear hcz12_4
    try clear hcz12_5
    try clear hcz12_6
    try clear hcz12_7
    try clear hcz12_8
    try clear hcz12_9
    try clear hcz9_0
    try clear hcz9_1
    try clear hcz9_10
    try clear hcz9_11
    try clear hcz9_12
    try clear hcz9_13
    try clear hcz9_2
    try clear hcz9_3
    try clear hcz9_4
    try clear hcz9_5
    try clear hcz9_6
    try clear hcz9_7
    try clear hcz9_8
    try clear hcz9_9
    try clear hfz10_0
    try clear hfz10_1
    try clear hfz10_10
    try clear hfz10_11
    try clear hfz10_12
    try clear hfz10_13
    try clear hfz10_2
    try clear hfz10_3
    try clear hfz10_4
    try clear hfz10_5
    try clear hfz10_6
    try clear hfz10_7
    try clear hfz10_8
    try clear hfz10_9
    try clear hfz11_0
    try clear hfz11_1
    try clear hfz11_10
    try clear hfz11_11
    try clear hfz11_12
    try clear hfz11_13
    try clear hfz11_2
    try clear hfz11_3
    try clear hfz11_4
    try clear hfz11_5
    try clear hfz11_6
    try clear hfz11_7
    try clear hfz11_8
    try clear hfz11_9
    try clear hfz12_0
    try clear hfz12_1
    try clear hfz12_10
    try clear hfz12_11
    try clear hfz12_12
    try clear hfz12_13
    try clear hfz12_2
    try clear hfz12_3
    try clear hfz12_4
    try clear hfz12_5
    try clear hfz12_6
    try clear hfz12_7
    try clear hfz12_8
    try clear hfz12_9
    try clear hfz9_0
    try clear hfz9_1
    try clear hfz9_10
    try clear hfz9_11
    try clear hfz9_12
    try clear hfz9_13
    try clear hfz9_2
    try clear hfz9_3
    try clear hfz9_4
    try clear hfz9_5
    try clear hfz9_6
    try clear hfz9_7
    try clear hfz9_8
    try clear hfz9_9
    obtain ⟨kq, x24_1, rfl, HA, HJ1, BK280, HB⟩ := hcut
    cases kq with
    | zero => exact absurd HA.out (by simp [impl_TaskOk0.j0])
    | succ kj1 =>
      have H := HA.out
      clear HA
      simp only [impl_TaskOk0.j0] at H
      by_cases c13 : x24_1 = true
      · subst c13
        have H1 : (some false) = some r := by rw [if_pos rfl] at H; exact H
        clear H
        have H := H1
        clear H1
        obtain rfl := Option.some.inj H
        go_wp2
        go_ret
        exact ⟨by first | rfl | (simp [errW_none, errW_some] <;> rfl) | (simp [*, errW_none, errW_some] <;> rfl), by repeat (first | (with_reducible first | exact HB.out | apply below_alloc | apply pw_below_drewN | apply below_drew1 | refine below_set ?_ GE280.out) | exact HB.out)⟩
      · replace c13 := Bool.eq_false_iff.mpr c13
        subst c13
        have H1 : (if a0_1 = 1 then (impl_TaskOk0.j1 kj1 a0_0 a0_1 a0_2 a0_3 a0_4 a0_5 a0_6 a0_7 a0_8 a0_9 a0_10 a0_11 a0_12 a0_13 a0_0 a0_1 a0_2 a0_3 a0_4 a0_5 a0_6 a0_7 a0_8 0 0 0 0 0) else (if a0_1 = 2 then (impl_TaskOk0.j2 kj1 a0_0 a0_1 a0_2 a0_3 a0_4 a0_5 a0_6 a0_7 a0_8 a0_9 a0_10 a0_11 a0_12 a0_13 a0_0 a0_1 a0_2 a0_3 a0_4 0 0 a0_7 0 a0_9 a0_10 a0_11 0 0) else (if a0_1 = 3 then (impl_TaskOk0.j3 kj1 a0_0 a0_1 a0_2 a0_3 a0_4 a0_5 a0_6 a0_7 a0_8 a0_9 a0_10 a0_11 a0_12 a0_13 a0_0 a0_1 a0_2 a0_3 a0_4 0 0 0 0 0 0 0 a0_12 a0_13) else (some false)))) = some r := by rw [if_neg (show ¬ (false = true) by decide)] at H; exact H
        clear H
        have H := H1
        clear H1
        by_cases c14 : a0_1 = 1
        · rw [if_pos c14] at H
          have c14b0 : (a0_1 == 1) = true := beq_iff_eq.mpr c14
          have c14b1 : (a0_1 != 1) = false := bne_eq_false_iff_eq.mpr c14
          clear c14
          have HC15 := Aside0.mk H
          clear H
          have hcz16_0 : wc.cell? ⟨gb280, 0, none⟩ = some (.int .i64 a0_0) := (blk_cell BK280.out 0).trans rfl
          have hcz16_1 : wc.cell? ⟨gb280, 1, none⟩ = some (.int .i64 a0_1) := (blk_cell BK280.out 1).trans rfl
          have hcz16_2 : wc.cell? ⟨gb280, 2, none⟩ = some (.int .i64 a0_2) := (blk_cell BK280.out 2).trans rfl
          have hcz16_3 : wc.cell? ⟨gb280, 3, none⟩ = some (.int .i64 a0_3) := (blk_cell BK280.out 3).trans rfl
          have hcz16_4 : wc.cell? ⟨gb280, 4, none⟩ = some (.bool a0_4) := (blk_cell BK280.out 4).trans rfl
          have hcz16_5 : wc.cell? ⟨gb280, 5, none⟩ = some (.int .i64 a0_5) := (blk_cell BK280.out 5).trans rfl
          have hcz16_6 : wc.cell? ⟨gb280, 6, none⟩ = some (.int .i64 a0_6) := (blk_cell BK280.out 6).trans rfl
          have hcz16_7 : wc.cell? ⟨gb280, 7, none⟩ = some (.int .i64 a0_7) := (blk_cell BK280.out 7).trans rfl
          have hcz16_8 : wc.cell? ⟨gb280, 8, none⟩ = some (.int .i64 a0_8) := (blk_cell BK280.out 8).trans rfl
          have hcz16_9 : wc.cell? ⟨gb280, 9, none⟩ = some (.int .i64 a0_9) := (blk_cell BK280.out 9).trans rfl
          have hcz16_10 : wc.cell? ⟨gb280, 10, none⟩ = some (.int .i64 a0_10) := (blk_cell BK280.out 10).trans rfl
          have hcz16_11 : wc.cell? ⟨gb280, 11, none⟩ = some (.int .i64 a0_11) := (blk_cell BK280.out 11).trans rfl
          have hcz16_12 : wc.cell? ⟨gb280, 12, none⟩ = some (.int .i64 a0_12) := (blk_cell BK280.out 12).trans rfl
          have hcz16_13 : wc.cell? ⟨gb280, 13, none⟩ = some (.int .i64 a0_13) := (blk_cell BK280.out 13).trans rfl
          have hfz16_0 := blk_frozen BK280.out 0
          have hfz16_1 := blk_frozen BK280.out 1
          have hfz16_2 := blk_frozen BK280.out 2
          have hfz16_3 := blk_frozen BK280.out 3
          have hfz16_4 := blk_frozen BK280.out 4
          have hfz16_5 := blk_frozen BK280.out 5
          have hfz16_6 := blk_frozen BK280.out 6
          have hfz16_7 := blk_frozen BK280.out 7
          have hfz16_8 := blk_frozen BK280.out 8
          have hfz16_9 := blk_frozen BK280.out 9
          have hfz16_10 := blk_frozen BK280.out 10
          have hfz16_11 := blk_frozen BK280.out 11
          have hfz16_12 := blk_frozen BK280.out 12
          have hfz16_13 := blk_frozen BK280.out 13
          go_upto_region 7 with (first | ((with_reducible refine gate_dst (N := 3) rfl ?_); (try (refine gate_guard (by rfl) ?_; dsimp only)); refine box_event ?hg (N := 3) ?hd (cs := #[.int .i64 0, .int .i64 0, .int .i64 0, .int .i64 0, .bool false, .int .i64 0, .int .i64 0, .int .i64 0, .int .i64 0, .int .i64 0, .int .i64 0, .int .i64 0, .int .i64 0, .int .i64 0]) (t := 48) ?hr ?_; (case hd => rfl); (case hg => rfl); (case hr => first | (go_simp; done) | (go_simp; rfl)); intro gb283 hg w17 hbox hb; have n0_ := Aside0.mk (blk_below (g := gb280) (o := .cells #[.int .i64 a0_0, .int .i64 a0_1, .int .i64 a0_2, .int .i64 a0_3, .bool a0_4, .int .i64 a0_5, .int .i64 a0_6, .int .i64 a0_7, .int .i64 a0_8, .int .i64 a0_9, .int .i64 a0_10, .int .i64 a0_11, .int .i64 a0_12, .int .i64 a0_13] 48 (0, 0)) (by (with_reducible repeat (first | refine blk_drewN ?_ _ | refine blk_drew ?_ | refine blk_alloc ?_ _)); exact BK280.out) hb); have n1_ := Aside0.mk (below_step (by repeat (first | (with_reducible first | exact HB.out | apply below_alloc | apply pw_below_drewN | apply below_drew1 | refine below_set ?_ GE280.out) | exact HB.out)) hb); have n2_ := Aside0.mk (hbox); have n3_ := Aside0.mk ((by rw [hg]; exact (below_size (by repeat (first | (with_reducible first | exact HB.out | apply below_alloc | apply pw_below_drewN | apply below_drew1 | refine below_set ?_ GE280.out) | exact HB.out))) : w.heap.size ≤ gb283)); have n4_ := Aside0.mk ((by rw [hg]; exact (below_size (by repeat (first | (with_reducible first | exact HB.out | apply below_alloc | apply pw_below_drewN | apply below_drew1 | refine below_set ?_ GE280.out) | exact HB.out))) : w.heap.size ≤ gb283)); have n5_ := Aside0.mk ((by rw [hg]; exact Nat.ne_of_lt (blk_lt (g := gb280) (o := .cells #[.int .i64 a0_0, .int .i64 a0_1, .int .i64 a0_2, .int .i64 a0_3, .bool a0_4, .int .i64 a0_5, .int .i64 a0_6, .int .i64 a0_7, .int .i64 a0_8, .int .i64 a0_9, .int .i64 a0_10, .int .i64 a0_11, .int .i64 a0_12, .int .i64 a0_13] 48 (0, 0)) (by (with_reducible repeat (first | refine blk_drewN ?_ _ | refine blk_drew ?_ | refine blk_alloc ?_ _)); exact BK280.out)) : gb280 ≠ gb283)); have n6_ := Aside0.mk ((by rw [hg]; exact Nat.ne_of_gt (blk_lt (g := gb280) (o := .cells #[.int .i64 a0_0, .int .i64 a0_1, .int .i64 a0_2, .int .i64 a0_3, .bool a0_4, .int .i64 a0_5, .int .i64 a0_6, .int .i64 a0_7, .int .i64 a0_8, .int .i64 a0_9, .int .i64 a0_10, .int .i64 a0_11, .int .i64 a0_12, .int .i64 a0_13] 48 (0, 0)) (by (with_reducible repeat (first | refine blk_drewN ?_ _ | refine blk_drew ?_ | refine blk_alloc ?_ _)); exact BK280.out)) : gb283 ≠ gb280)); clear BK280; clear HB; have BK280 := n0_; have HB := n1_; have BK283 := n2_; have GW283 := n3_; have GE283 := n4_; have NB280_283 := n5_; have NB283_280 := n6_; clear n0_ n1_ n2_ n3_ n4_ n5_ n6_; clear hb hbox hg; have hnb18 := NB283_280.out; have hnc18 := NB280_283.out; have hcz19_0 : w17.cell? ⟨gb283, 0, none⟩ = some (.int .i64 0) := (blk_cell BK283.out 0).trans rfl; have hcz19_1 : w17.cell? ⟨gb283, 1, none⟩ = some (.int .i64 0) := (blk_cell BK283.out 1).trans rfl; have hcz19_2 : w17.cell? ⟨gb283, 2, none⟩ = some (.int .i64 0) := (blk_cell BK283.out 2).trans rfl; have hcz19_3 : w17.cell? ⟨gb283, 3, none⟩ = some (.int .i64 0) := (blk_cell BK283.out 3).trans rfl; have hcz19_4 : w17.cell? ⟨gb283, 4, none⟩ = some (.bool false) := (blk_cell BK283.out 4).trans rfl; have hcz19_5 : w17.cell? ⟨gb283, 5, none⟩ = some (.int .i64 0) := (blk_cell BK283.out 5).trans rfl; have hcz19_6 : w17.cell? ⟨gb283, 6, none⟩ = some (.int .i64 0) := (blk_cell BK283.out 6).trans rfl; have hcz19_7 : w17.cell? ⟨gb283, 7, none⟩ = some (.int .i64 0) := (blk_cell BK283.out 7).trans rfl; have hcz19_8 : w17.cell? ⟨gb283, 8, none⟩ = some (.int .i64 0) := (blk_cell BK283.out 8).trans rfl; have hcz19_9 : w17.cell? ⟨gb283, 9, none⟩ = some (.int .i64 0) := (blk_cell BK283.out 9).trans rfl; have hcz19_10 : w17.cell? ⟨gb283, 10, none⟩ = some (.int .i64 0) := (blk_cell BK283.out 10).trans rfl; have hcz19_11 : w17.cell? ⟨gb283, 11, none⟩ = some (.int .i64 0) := (blk_cell BK283.out 11).trans rfl; have hcz19_12 : w17.cell? ⟨gb283, 12, none⟩ = some (.int .i64 0) := (blk_cell BK283.out 12).trans rfl; have hcz19_13 : w17.cell? ⟨gb283, 13, none⟩ = some (.int .i64 0) := (blk_cell BK283.out 13).trans rfl; have hfz19_0 := blk_frozen BK283.out 0; have hfz19_1 := blk_frozen BK283.out 1; have hfz19_2 := blk_frozen BK283.out 2; have hfz19_3 := blk_frozen BK283.out 3; have hfz19_4 := blk_frozen BK283.out 4; have hfz19_5 := blk_frozen BK283.out 5; have hfz19_6 := blk_frozen BK283.out 6; have hfz19_7 := blk_frozen BK283.out 7; have hfz19_8 := blk_frozen BK283.out 8; have hfz19_9 := blk_frozen BK283.out 9; have hfz19_10 := blk_frozen BK283.out 10; have hfz19_11 := blk_frozen BK283.out 11; have hfz19_12 := blk_frozen BK283.out 12; have hfz19_13 := blk_frozen BK283.out 13; have hcz20_0 : w17.cell? ⟨gb280, 0, none⟩ = some (.int .i64 a0_0) := (blk_cell BK280.out 0).trans rfl; have hcz20_1 : w17.cell? ⟨gb280, 1, none⟩ = some (.int .i64 a0_1) := (blk_cell BK280.out 1).trans rfl; have hcz20_2 : w17.cell? ⟨gb280, 2, none⟩ = some (.int .i64 a0_2) := (blk_cell BK280.out 2).trans rfl; have hcz20_3 : w17.cell? ⟨gb280, 3, none⟩ = some (.int .i64 a0_3) := (blk_cell BK280.out 3).trans rfl; have hcz20_4 : w17.cell? ⟨gb280, 4, none⟩ = some (.bool a0_4) := (blk_cell BK280.out 4).trans rfl; have hcz20_5 : w17.cell? ⟨gb280, 5, none⟩ = some (.int .i64 a0_5) := (blk_cell BK280.out 5).trans rfl; have hcz20_6 : w17.cell? ⟨gb280, 6, none⟩ = some (.int .i64 a0_6) := (blk_cell BK280.out 6).trans rfl; have hcz20_7 : w17.cell? ⟨gb280, 7, none⟩ = some (.int .i64 a0_7) := (blk_cell BK280.out 7).trans rfl; have hcz20_8 : w17.cell? ⟨gb280, 8, none⟩ = some (.int .i64 a0_8) := (blk_cell BK280.out 8).trans rfl; have hcz20_9 : w17.cell? ⟨gb280, 9, none⟩ = some (.int .i64 a0_9) := (blk_cell BK280.out 9).trans rfl; have hcz20_10 : w17.cell? ⟨gb280, 10, none⟩ = some (.int .i64 a0_10) := (blk_cell BK280.out 10).trans rfl; have hcz20_11 : w17.cell? ⟨gb280, 11, none⟩ = some (.int .i64 a0_11) := (blk_cell BK280.out 11).trans rfl; have hcz20_12 : w17.cell? ⟨gb280, 12, none⟩ = some (.int .i64 a0_12) := (blk_cell BK280.out 12).trans rfl; have hcz20_13 : w17.cell? ⟨gb280, 13, none⟩ = some (.int .i64 a0_13) := (blk_cell BK280.out 13).trans rfl; have hfz20_0 := blk_frozen BK280.out 0; have hfz20_1 := blk_frozen BK280.out 1; have hfz20_2 := blk_frozen BK280.out 2; have hfz20_3 := blk_frozen BK280.out 3; have hfz20_4 := blk_frozen BK280.out 4; have hfz20_5 := blk_frozen BK280.out 5; have hfz20_6 := blk_frozen BK280.out 6; have hfz20_7 := blk_frozen BK280.out 7; have hfz20_8 := blk_frozen BK280.out 8; have hfz20_9 := blk_frozen BK280.out 9; have hfz20_10 := blk_frozen BK280.out 10; have hfz20_11 := blk_frozen BK280.out 11; have hfz20_12 := blk_frozen BK280.out 12; have hfz20_13 := blk_frozen BK280.out 13))
          (try simp only [Act.put, List.setIfInBounds_toArray, List.set_cons_zero, List.set_cons_succ])
          go_cut [] (fun wc => ∃ (kq : Nat) (x284005_14 : Int) (x284006_14 : Int) (x284007_14 : Int) (x284008_14 : Int), Aside0 (impl_TaskOk0.j1 kq a0_0 a0_1 a0_2 a0_3 a0_4 a0_5 a0_6 a0_7 a0_8 a0_9 a0_10 a0_11 a0_12 a0_13 a0_0 a0_1 a0_2 a0_3 a0_4 x284005_14 x284006_14 x284007_14 x284008_14 0 0 0 0 0 = some r) ∧ Aside0 (kq ≤ kj1) ∧ Aside0 (wc.heap[gb280]? = some (.cells #[.int .i64 a0_0, .int .i64 a0_1, .int .i64 a0_2, .int .i64 a0_3, .bool a0_4, .int .i64 a0_5, .int .i64 a0_6, .int .i64 a0_7, .int .i64 a0_8, .int .i64 a0_9, .int .i64 a0_10, .int .i64 a0_11, .int .i64 a0_12, .int .i64 a0_13] 48 (0, 0))) ∧ Aside0 (wc.heap[gb283]? = some (.cells #[.int .i64 a0_0, .int .i64 a0_1, .int .i64 a0_2, .int .i64 a0_3, .bool a0_4, .int .i64 x284005_14, .int .i64 x284006_14, .int .i64 x284007_14, .int .i64 x284008_14, .int .i64 0, .int .i64 0, .int .i64 0, .int .i64 0, .int .i64 0] 48 (0, 0))) ∧ Aside0 (Below w.heap.size w wc))
          case first =>
            have H := HC15.out
            clear HC15
            have H' := Aside0.mk H
            clear H
            try go_wp2
            have n0_ : Aside0 (((((((((((((((w17.setCell ⟨gb283, 0, none⟩ (.int .i64 a0_0)).setCell ⟨gb283, 1, none⟩ (.int .i64 a0_1)).setCell ⟨gb283, 2, none⟩ (.int .i64 a0_2)).setCell ⟨gb283, 3, none⟩ (.int .i64 a0_3)).setCell ⟨gb283, 4, none⟩ (.bool a0_4)).setCell ⟨gb283, 5, none⟩ (.int .i64 0)).setCell ⟨gb283, 6, none⟩ (.int .i64 0)).setCell ⟨gb283, 7, none⟩ (.int .i64 0)).setCell ⟨gb283, 8, none⟩ (.int .i64 0)).setCell ⟨gb283, 9, none⟩ (.int .i64 0)).setCell ⟨gb283, 10, none⟩ (.int .i64 0)).setCell ⟨gb283, 11, none⟩ (.int .i64 0)).setCell ⟨gb283, 12, none⟩ (.int .i64 0)).setCell ⟨gb283, 13, none⟩ (.int .i64 0)).heap[gb280]? = some (.cells #[.int .i64 a0_0, .int .i64 a0_1, .int .i64 a0_2, .int .i64 a0_3, .bool a0_4, .int .i64 a0_5, .int .i64 a0_6, .int .i64 a0_7, .int .i64 a0_8, .int .i64 a0_9, .int .i64 a0_10, .int .i64 a0_11, .int .i64 a0_12, .int .i64 a0_13] 48 (0, 0))) := ⟨by (with_reducible repeat (first | refine blk_drewN ?_ _ | refine blk_drew ?_ | refine blk_alloc ?_ _)); refine blk_far ?_ NB280_283.out _; (with_reducible repeat (first | refine blk_drewN ?_ _ | refine blk_drew ?_ | refine blk_alloc ?_ _)); refine blk_far ?_ NB280_283.out _; (with_reducible repeat (first | refine blk_drewN ?_ _ | refine blk_drew ?_ | refine blk_alloc ?_ _)); refine blk_far ?_ NB280_283.out _; (with_reducible repeat (first | refine blk_drewN ?_ _ | refine blk_drew ?_ | refine blk_alloc ?_ _)); refine blk_far ?_ NB280_283.out _; (with_reducible repeat (first | refine blk_drewN ?_ _ | refine blk_drew ?_ | refine blk_alloc ?_ _)); refine blk_far ?_ NB280_283.out _; (with_reducible repeat (first | refine blk_drewN ?_ _ | refine blk_drew ?_ | refine blk_alloc ?_ _)); refine blk_far ?_ NB280_283.out _; (with_reducible repeat (first | refine blk_drewN ?_ _ | refine blk_drew ?_ | refine blk_alloc ?_ _)); refine blk_far ?_ NB280_283.out _; (with_reducible repeat (first | refine blk_drewN ?_ _ | refine blk_drew ?_ | refine blk_alloc ?_ _)); refine blk_far ?_ NB280_283.out _; (with_reducible repeat (first | refine blk_drewN ?_ _ | refine blk_drew ?_ | refine blk_alloc ?_ _)); refine blk_far ?_ NB280_283.out _; (with_reducible repeat (first | refine blk_drewN ?_ _ | refine blk_drew ?_ | refine blk_alloc ?_ _)); refine blk_far ?_ NB280_283.out _; (with_reducible repeat (first | refine blk_drewN ?_ _ | refine blk_drew ?_ | refine blk_alloc ?_ _)); refine blk_far ?_ NB280_283.out _; (with_reducible repeat (first | refine blk_drewN ?_ _ | refine blk_drew ?_ | refine blk_alloc ?_ _)); refine blk_far ?_ NB280_283.out _; (with_reducible repeat (first | refine blk_drewN ?_ _ | refine blk_drew ?_ | refine blk_alloc ?_ _)); refine blk_far ?_ NB280_283.out _; (with_reducible repeat (first | refine blk_drewN ?_ _ | refine blk_drew ?_ | refine blk_alloc ?_ _)); refine blk_far ?_ NB280_283.out _; (with_reducible repeat (first | refine blk_drewN ?_ _ | refine blk_drew ?_ | refine blk_alloc ?_ _)); exact BK280.out⟩
            have n1_ : Aside0 (((((((((((((((w17.setCell ⟨gb283, 0, none⟩ (.int .i64 a0_0)).setCell ⟨gb283, 1, none⟩ (.int .i64 a0_1)).setCell ⟨gb283, 2, none⟩ (.int .i64 a0_2)).setCell ⟨gb283, 3, none⟩ (.int .i64 a0_3)).setCell ⟨gb283, 4, none⟩ (.bool a0_4)).setCell ⟨gb283, 5, none⟩ (.int .i64 0)).setCell ⟨gb283, 6, none⟩ (.int .i64 0)).setCell ⟨gb283, 7, none⟩ (.int .i64 0)).setCell ⟨gb283, 8, none⟩ (.int .i64 0)).setCell ⟨gb283, 9, none⟩ (.int .i64 0)).setCell ⟨gb283, 10, none⟩ (.int .i64 0)).setCell ⟨gb283, 11, none⟩ (.int .i64 0)).setCell ⟨gb283, 12, none⟩ (.int .i64 0)).setCell ⟨gb283, 13, none⟩ (.int .i64 0)).heap[gb283]? = some (.cells #[.int .i64 a0_0, .int .i64 a0_1, .int .i64 a0_2, .int .i64 a0_3, .bool a0_4, .int .i64 0, .int .i64 0, .int .i64 0, .int .i64 0, .int .i64 0, .int .i64 0, .int .i64 0, .int .i64 0, .int .i64 0] 48 (0, 0))) := ⟨by (with_reducible repeat (first | refine blk_drewN ?_ _ | refine blk_drew ?_ | refine blk_alloc ?_ _)); refine blk_put (cs := #[.int .i64 a0_0, .int .i64 a0_1, .int .i64 a0_2, .int .i64 a0_3, .bool a0_4, .int .i64 0, .int .i64 0, .int .i64 0, .int .i64 0, .int .i64 0, .int .i64 0, .int .i64 0, .int .i64 0, .int .i64 0]) ?_ 13 _ rfl; (with_reducible repeat (first | refine blk_drewN ?_ _ | refine blk_drew ?_ | refine blk_alloc ?_ _)); refine blk_put (cs := #[.int .i64 a0_0, .int .i64 a0_1, .int .i64 a0_2, .int .i64 a0_3, .bool a0_4, .int .i64 0, .int .i64 0, .int .i64 0, .int .i64 0, .int .i64 0, .int .i64 0, .int .i64 0, .int .i64 0, .int .i64 0]) ?_ 12 _ rfl; (with_reducible repeat (first | refine blk_drewN ?_ _ | refine blk_drew ?_ | refine blk_alloc ?_ _)); refine blk_put (cs := #[.int .i64 a0_0, .int .i64 a0_1, .int .i64 a0_2, .int .i64 a0_3, .bool a0_4, .int .i64 0, .int .i64 0, .int .i64 0, .int .i64 0, .int .i64 0, .int .i64 0, .int .i64 0, .int .i64 0, .int .i64 0]) ?_ 11 _ rfl; (with_reducible repeat (first | refine blk_drewN ?_ _ | refine blk_drew ?_ | refine blk_alloc ?_ _)); refine blk_put (cs := #[.int .i64 a0_0, .int .i64 a0_1, .int .i64 a0_2, .int .i64 a0_3, .bool a0_4, .int .i64 0, .int .i64 0, .int .i64 0, .int .i64 0, .int .i64 0, .int .i64 0, .int .i64 0, .int .i64 0, .int .i64 0]) ?_ 10 _ rfl; (with_reducible repeat (first | refine blk_drewN ?_ _ | refine blk_drew ?_ | refine blk_alloc ?_ _)); refine blk_put (cs := #[.int .i64 a0_0, .int .i64 a0_1, .int .i64 a0_2, .int .i64 a0_3, .bool a0_4, .int .i64 0, .int .i64 0, .int .i64 0, .int .i64 0, .int .i64 0, .int .i64 0, .int .i64 0, .int .i64 0, .int .i64 0]) ?_ 9 _ rfl; (with_reducible repeat (first | refine blk_drewN ?_ _ | refine blk_drew ?_ | refine blk_alloc ?_ _)); refine blk_put (cs := #[.int .i64 a0_0, .int .i64 a0_1, .int .i64 a0_2, .int .i64 a0_3, .bool a0_4, .int .i64 0, .int .i64 0, .int .i64 0, .int .i64 0, .int .i64 0, .int .i64 0, .int .i64 0, .int .i64 0, .int .i64 0]) ?_ 8 _ rfl; (with_reducible repeat (first | refine blk_drewN ?_ _ | refine blk_drew ?_ | refine blk_alloc ?_ _)); refine blk_put (cs := #[.int .i64 a0_0, .int .i64 a0_1, .int .i64 a0_2, .int .i64 a0_3, .bool a0_4, .int .i64 0, .int .i64 0, .int .i64 0, .int .i64 0, .int .i64 0, .int .i64 0, .int .i64 0, .int .i64 0, .int .i64 0]) ?_ 7 _ rfl; (with_reducible repeat (first | refine blk_drewN ?_ _ | refine blk_drew ?_ | refine blk_alloc ?_ _)); refine blk_put (cs := #[.int .i64 a0_0, .int .i64 a0_1, .int .i64 a0_2, .int .i64 a0_3, .bool a0_4, .int .i64 0, .int .i64 0, .int .i64 0, .int .i64 0, .int .i64 0, .int .i64 0, .int .i64 0, .int .i64 0, .int .i64 0]) ?_ 6 _ rfl; (with_reducible repeat (first | refine blk_drewN ?_ _ | refine blk_drew ?_ | refine blk_alloc ?_ _)); refine blk_put (cs := #[.int .i64 a0_0, .int .i64 a0_1, .int .i64 a0_2, .int .i64 a0_3, .bool a0_4, .int .i64 0, .int .i64 0, .int .i64 0, .int .i64 0, .int .i64 0, .int .i64 0, .int .i64 0, .int .i64 0, .int .i64 0]) ?_ 5 _ rfl; (with_reducible repeat (first | refine blk_drewN ?_ _ | refine blk_drew ?_ | refine blk_alloc ?_ _)); refine blk_put (cs := #[.int .i64 a0_0, .int .i64 a0_1, .int .i64 a0_2, .int .i64 a0_3, .bool false, .int .i64 0, .int .i64 0, .int .i64 0, .int .i64 0, .int .i64 0, .int .i64 0, .int .i64 0, .int .i64 0, .int .i64 0]) ?_ 4 _ rfl; (with_reducible repeat (first | refine blk_drewN ?_ _ | refine blk_drew ?_ | refine blk_alloc ?_ _)); refine blk_put (cs := #[.int .i64 a0_0, .int .i64 a0_1, .int .i64 a0_2, .int .i64 0, .bool false, .int .i64 0, .int .i64 0, .int .i64 0, .int .i64 0, .int .i64 0, .int .i64 0, .int .i64 0, .int .i64 0, .int .i64 0]) ?_ 3 _ rfl; (with_reducible repeat (first | refine blk_drewN ?_ _ | refine blk_drew ?_ | refine blk_alloc ?_ _)); refine blk_put (cs := #[.int .i64 a0_0, .int .i64 a0_1, .int .i64 0, .int .i64 0, .bool false, .int .i64 0, .int .i64 0, .int .i64 0, .int .i64 0, .int .i64 0, .int .i64 0, .int .i64 0, .int .i64 0, .int .i64 0]) ?_ 2 _ rfl; (with_reducible repeat (first | refine blk_drewN ?_ _ | refine blk_drew ?_ | refine blk_alloc ?_ _)); refine blk_put (cs := #[.int .i64 a0_0, .int .i64 0, .int .i64 0, .int .i64 0, .bool false, .int .i64 0, .int .i64 0, .int .i64 0, .int .i64 0, .int .i64 0, .int .i64 0, .int .i64 0, .int .i64 0, .int .i64 0]) ?_ 1 _ rfl; (with_reducible repeat (first | refine blk_drewN ?_ _ | refine blk_drew ?_ | refine blk_alloc ?_ _)); refine blk_put (cs := #[.int .i64 0, .int .i64 0, .int .i64 0, .int .i64 0, .bool false, .int .i64 0, .int .i64 0, .int .i64 0, .int .i64 0, .int .i64 0, .int .i64 0, .int .i64 0, .int .i64 0, .int .i64 0]) ?_ 0 _ rfl; (with_reducible repeat (first | refine blk_drewN ?_ _ | refine blk_drew ?_ | refine blk_alloc ?_ _)); exact BK283.out⟩
            have n2_ : Aside0 (Below w.heap.size w ((((((((((((((w17.setCell ⟨gb283, 0, none⟩ (.int .i64 a0_0)).setCell ⟨gb283, 1, none⟩ (.int .i64 a0_1)).setCell ⟨gb283, 2, none⟩ (.int .i64 a0_2)).setCell ⟨gb283, 3, none⟩ (.int .i64 a0_3)).setCell ⟨gb283, 4, none⟩ (.bool a0_4)).setCell ⟨gb283, 5, none⟩ (.int .i64 0)).setCell ⟨gb283, 6, none⟩ (.int .i64 0)).setCell ⟨gb283, 7, none⟩ (.int .i64 0)).setCell ⟨gb283, 8, none⟩ (.int .i64 0)).setCell ⟨gb283, 9, none⟩ (.int .i64 0)).setCell ⟨gb283, 10, none⟩ (.int .i64 0)).setCell ⟨gb283, 11, none⟩ (.int .i64 0)).setCell ⟨gb283, 12, none⟩ (.int .i64 0)).setCell ⟨gb283, 13, none⟩ (.int .i64 0))) := ⟨by repeat (first | (with_reducible first | exact HB.out | apply below_alloc | apply pw_below_drewN | apply below_drew1 | refine below_set ?_ GE280.out | refine below_set ?_ GE283.out) | exact HB.out)⟩
            (try clear BK280)
            (try clear BK283)
            (try clear HB)
            generalize ((((((((((((((w17.setCell ⟨gb283, 0, none⟩ (.int .i64 a0_0)).setCell ⟨gb283, 1, none⟩ (.int .i64 a0_1)).setCell ⟨gb283, 2, none⟩ (.int .i64 a0_2)).setCell ⟨gb283, 3, none⟩ (.int .i64 a0_3)).setCell ⟨gb283, 4, none⟩ (.bool a0_4)).setCell ⟨gb283, 5, none⟩ (.int .i64 0)).setCell ⟨gb283, 6, none⟩ (.int .i64 0)).setCell ⟨gb283, 7, none⟩ (.int .i64 0)).setCell ⟨gb283, 8, none⟩ (.int .i64 0)).setCell ⟨gb283, 9, none⟩ (.int .i64 0)).setCell ⟨gb283, 10, none⟩ (.int .i64 0)).setCell ⟨gb283, 11, none⟩ (.int .i64 0)).setCell ⟨gb283, 12, none⟩ (.int .i64 0)).setCell ⟨gb283, 13, none⟩ (.int .i64 0)) = w21 at n0_ n1_ n2_ ⊢
            have BK280 := n0_
            have BK283 := n1_
            have HB := n2_
            clear n0_ n1_ n2_
            have n0_ := Aside0.mk (blk_drew BK280.out)
            have n1_ := Aside0.mk (blk_drew BK283.out)
            have n2_ := Aside0.mk (below_drew1 HB.out)
            clear BK280
            clear BK283
            clear HB
            have BK280 := n0_
            have BK283 := n1_
            have HB := n2_
            clear n0_ n1_ n2_
            refine start_ (n := 16) (S := fun w' => w'.cell? ⟨gb280, 0, none⟩ = some (.int .i64 a0_0) ∧ w'.cell? ⟨gb280, 1, none⟩ = some (.int .i64 a0_1) ∧ w'.cell? ⟨gb280, 2, none⟩ = some (.int .i64 a0_2) ∧ w'.cell? ⟨gb280, 3, none⟩ = some (.int .i64 a0_3) ∧ w'.cell? ⟨gb280, 4, none⟩ = some (.bool a0_4) ∧ w'.cell? ⟨gb280, 5, none⟩ = some (.int .i64 a0_5) ∧ w'.cell? ⟨gb280, 6, none⟩ = some (.int .i64 a0_6) ∧ w'.cell? ⟨gb280, 7, none⟩ = some (.int .i64 a0_7) ∧ w'.cell? ⟨gb280, 8, none⟩ = some (.int .i64 a0_8) ∧ w'.cell? ⟨gb280, 9, none⟩ = some (.int .i64 a0_9) ∧ w'.cell? ⟨gb280, 10, none⟩ = some (.int .i64 a0_10) ∧ w'.cell? ⟨gb280, 11, none⟩ = some (.int .i64 a0_11) ∧ w'.cell? ⟨gb280, 12, none⟩ = some (.int .i64 a0_12) ∧ w'.cell? ⟨gb280, 13, none⟩ = some (.int .i64 a0_13)) (ds := []) #[false, false, false, false, false, false, false, false, false, false, false, false, false, false, false, false] (by kernel_rfl) rfl rfl ⟨(blk_cell BK280.out 0).trans rfl, (blk_cell BK280.out 1).trans rfl, (blk_cell BK280.out 2).trans rfl, (blk_cell BK280.out 3).trans rfl, (blk_cell BK280.out 4).trans rfl, (blk_cell BK280.out 5).trans rfl, (blk_cell BK280.out 6).trans rfl, (blk_cell BK280.out 7).trans rfl, (blk_cell BK280.out 8).trans rfl, (blk_cell BK280.out 9).trans rfl, (blk_cell BK280.out 10).trans rfl, (blk_cell BK280.out 11).trans rfl, (blk_cell BK280.out 12).trans rfl, (blk_cell BK280.out 13).trans rfl⟩ (fun hHeld => ?_); refine with_tabW impl_TaskOk0.tab7 impl_TaskOk0.bits7 (fun HT_ HW_ => ?_)
            generalize w21.drew = w22 at BK280 BK283 HB hHeld ⊢
            refine pure_ (i := 0) (N := some 40) (v := ?_) (a' := ?_) #[true, false, false, false, false, false, false, false, false, false, false, false, false, false, false, false] rfl rfl (any_of HT_.out (by kernel_rfl)) (fun _ _ _ h => h) (Or.inl ⟨by rfl, ?_⟩) ?_ ?_
            rotate_left
            · intro w'
              go_simp
              with_reducible rfl
            rotate_left
            · simp only [Act.put, List.setIfInBounds_toArray, List.set_cons_zero, List.set_cons_succ, i64_w, i32_w]
              rfl
            refine pure_ (i := 2) (N := some 42) (v := ?_) (a' := ?_) #[true, false, true, false, false, false, false, false, false, false, false, false, false, false, false, false] rfl rfl (any_of HT_.out (by kernel_rfl)) (fun _ _ _ h => h) (Or.inl ⟨by rfl, ?_⟩) ?_ ?_
            rotate_left
            · intro w'
              go_simp
              with_reducible rfl
            rotate_left
            · simp only [Act.put, List.setIfInBounds_toArray, List.set_cons_zero, List.set_cons_succ, i64_w, i32_w]
              rfl
            refine pure_ (i := 4) (N := some 44) (v := ?_) (a' := ?_) #[true, false, true, false, true, false, false, false, false, false, false, false, false, false, false, false] rfl rfl (any_of HT_.out (by kernel_rfl)) (fun _ _ _ h => h) (Or.inl ⟨by rfl, ?_⟩) ?_ ?_
            rotate_left
            · intro w'
              go_simp
              with_reducible rfl
            rotate_left
            · simp only [Act.put, List.setIfInBounds_toArray, List.set_cons_zero, List.set_cons_succ, i64_w, i32_w]
              rfl
            refine pure_ (i := 6) (N := some 46) (v := ?_) (a' := ?_) #[true, false, true, false, true, false, true, false, false, false, false, false, false, false, false, false] rfl rfl (any_of HT_.out (by kernel_rfl)) (fun _ _ _ h => h) (Or.inl ⟨by rfl, ?_⟩) ?_ ?_
            rotate_left
            · intro w'
              go_simp
              with_reducible rfl
            rotate_left
            · simp only [Act.put, List.setIfInBounds_toArray, List.set_cons_zero, List.set_cons_succ, i64_w, i32_w]
              rfl
            refine take_ (i := 1) (N := some 41) (v := ?_) (a' := ?_) #[true, true, true, false, true, false, true, false, false, false, false, false, false, false, false, false] rfl rfl (take_ofW HT_.out HW_.out (by kernel_rfl)) (fun _ _ _ h => h) (Or.inl ⟨by rfl, ?_⟩) hHeld ?_ ?_
            rotate_left
            · rintro w' ⟨s0, s1, s2, s3, s4, s5, s6, s7, s8, s9, s10, s11, s12, s13⟩
              go_simp
              with_reducible rfl
            rotate_left
            · simp only [Act.put, List.setIfInBounds_toArray, List.set_cons_zero, List.set_cons_succ, i64_w, i32_w]
              rfl
            refine pure_ (i := 8) (N := some 48) (v := ?_) (a' := ?_) #[true, true, true, false, true, false, true, false, true, false, false, false, false, false, false, false] rfl rfl (any_of HT_.out (by kernel_rfl)) (fun _ _ _ h => h) (Or.inl ⟨by rfl, ?_⟩) ?_ ?_
            rotate_left
            · intro w'
              go_simp
              with_reducible rfl
            rotate_left
            · simp only [Act.put, List.setIfInBounds_toArray, List.set_cons_zero, List.set_cons_succ, i64_w, i32_w]
              rfl
            refine take_ (i := 3) (N := some 43) (v := ?_) (a' := ?_) #[true, true, true, true, true, false, true, false, true, false, false, false, false, false, false, false] rfl rfl (take_ofW HT_.out HW_.out (by kernel_rfl)) (fun _ _ _ h => h) (Or.inl ⟨by rfl, ?_⟩) hHeld ?_ ?_
            rotate_left
            · rintro w' ⟨s0, s1, s2, s3, s4, s5, s6, s7, s8, s9, s10, s11, s12, s13⟩
              go_simp
              with_reducible rfl
            rotate_left
            · simp only [Act.put, List.setIfInBounds_toArray, List.set_cons_zero, List.set_cons_succ, i64_w, i32_w]
              rfl
            refine take_ (i := 5) (N := some 45) (v := ?_) (a' := ?_) #[true, true, true, true, true, true, true, false, true, false, false, false, false, false, false, false] rfl rfl (take_ofW HT_.out HW_.out (by kernel_rfl)) (fun _ _ _ h => h) (Or.inl ⟨by rfl, ?_⟩) hHeld ?_ ?_
            rotate_left
            · rintro w' ⟨s0, s1, s2, s3, s4, s5, s6, s7, s8, s9, s10, s11, s12, s13⟩
              go_simp
              with_reducible rfl
            rotate_left
            · simp only [Act.put, List.setIfInBounds_toArray, List.set_cons_zero, List.set_cons_succ, i64_w, i32_w]
              rfl
            refine take_ (i := 7) (N := some 47) (v := ?_) (a' := ?_) #[true, true, true, true, true, true, true, true, true, false, false, false, false, false, false, false] rfl rfl (take_ofW HT_.out HW_.out (by kernel_rfl)) (fun _ _ _ h => h) (Or.inl ⟨by rfl, ?_⟩) hHeld ?_ ?_
            rotate_left
            · rintro w' ⟨s0, s1, s2, s3, s4, s5, s6, s7, s8, s9, s10, s11, s12, s13⟩
              go_simp
              with_reducible rfl
            rotate_left
            · simp only [Act.put, List.setIfInBounds_toArray, List.set_cons_zero, List.set_cons_succ, i64_w, i32_w]
              rfl
            refine one_ (i := 9) (N := none) #[true, true, true, true, true, true, true, true, true, true, false, false, false, false, false, false] rfl rfl (one_of HT_.out (by kernel_rfl)) (by decide) (fun K hK => ?_)
            have hs23 : w22.cell? ⟨gb283, 5, none⟩ = some (.int .i64 0) := (blk_cell BK283.out 5).trans rfl
            have hfs23 := blk_frozen BK283.out 5
            have hns23_0 := NB280_283.out
            have hms23_0 := NB283_280.out
            refine skip_ (w1 := ?_) (by rfl) rfl ?_ ?_
            rotate_left
            · go_simp
              rfl
            refine hK.out _ _ ⟨((cell_far (p := ⟨gb283, _, none⟩) NB280_283.out _).trans (hHeld.1)), ((cell_far (p := ⟨gb283, _, none⟩) NB280_283.out _).trans (hHeld.2.1)), ((cell_far (p := ⟨gb283, _, none⟩) NB280_283.out _).trans (hHeld.2.2.1)), ((cell_far (p := ⟨gb283, _, none⟩) NB280_283.out _).trans (hHeld.2.2.2.1)), ((cell_far (p := ⟨gb283, _, none⟩) NB280_283.out _).trans (hHeld.2.2.2.2.1)), ((cell_far (p := ⟨gb283, _, none⟩) NB280_283.out _).trans (hHeld.2.2.2.2.2.1)), ((cell_far (p := ⟨gb283, _, none⟩) NB280_283.out _).trans (hHeld.2.2.2.2.2.2.1)), ((cell_far (p := ⟨gb283, _, none⟩) NB280_283.out _).trans (hHeld.2.2.2.2.2.2.2.1)), ((cell_far (p := ⟨gb283, _, none⟩) NB280_283.out _).trans (hHeld.2.2.2.2.2.2.2.2.1)), ((cell_far (p := ⟨gb283, _, none⟩) NB280_283.out _).trans (hHeld.2.2.2.2.2.2.2.2.2.1)), ((cell_far (p := ⟨gb283, _, none⟩) NB280_283.out _).trans (hHeld.2.2.2.2.2.2.2.2.2.2.1)), ((cell_far (p := ⟨gb283, _, none⟩) NB280_283.out _).trans (hHeld.2.2.2.2.2.2.2.2.2.2.2.1)), ((cell_far (p := ⟨gb283, _, none⟩) NB280_283.out _).trans (hHeld.2.2.2.2.2.2.2.2.2.2.2.2.1)), ((cell_far (p := ⟨gb283, _, none⟩) NB280_283.out _).trans (hHeld.2.2.2.2.2.2.2.2.2.2.2.2.2))⟩ (fun hHeld => ?_)
            clear hK K
            refine pure_ (i := 10) (N := some 49) (v := ?_) (a' := ?_) #[true, true, true, true, true, true, true, true, true, true, true, false, false, false, false, false] rfl rfl (any_of HT_.out (by kernel_rfl)) (fun _ _ _ h => h) (Or.inl ⟨by rfl, ?_⟩) ?_ ?_
            rotate_left
            · intro w'
              go_simp
              with_reducible rfl
            rotate_left
            · simp only [Act.put, List.setIfInBounds_toArray, List.set_cons_zero, List.set_cons_succ, i64_w, i32_w]
              rfl
            refine one_ (i := 11) (N := none) #[true, true, true, true, true, true, true, true, true, true, true, true, false, false, false, false] rfl rfl (one_of HT_.out (by kernel_rfl)) (by decide) (fun K hK => ?_)
            have hs24 : w22.cell? ⟨gb283, 6, none⟩ = some (.int .i64 0) := (blk_cell BK283.out 6).trans rfl
            have hfs24 := blk_frozen BK283.out 6
            have hns24_0 := NB280_283.out
            have hms24_0 := NB283_280.out
            refine skip_ (w1 := ?_) (by rfl) rfl ?_ ?_
            rotate_left
            · go_simp
              rfl
            refine hK.out _ _ ⟨((cell_far (p := ⟨gb283, _, none⟩) NB280_283.out _).trans (hHeld.1)), ((cell_far (p := ⟨gb283, _, none⟩) NB280_283.out _).trans (hHeld.2.1)), ((cell_far (p := ⟨gb283, _, none⟩) NB280_283.out _).trans (hHeld.2.2.1)), ((cell_far (p := ⟨gb283, _, none⟩) NB280_283.out _).trans (hHeld.2.2.2.1)), ((cell_far (p := ⟨gb283, _, none⟩) NB280_283.out _).trans (hHeld.2.2.2.2.1)), ((cell_far (p := ⟨gb283, _, none⟩) NB280_283.out _).trans (hHeld.2.2.2.2.2.1)), ((cell_far (p := ⟨gb283, _, none⟩) NB280_283.out _).trans (hHeld.2.2.2.2.2.2.1)), ((cell_far (p := ⟨gb283, _, none⟩) NB280_283.out _).trans (hHeld.2.2.2.2.2.2.2.1)), ((cell_far (p := ⟨gb283, _, none⟩) NB280_283.out _).trans (hHeld.2.2.2.2.2.2.2.2.1)), ((cell_far (p := ⟨gb283, _, none⟩) NB280_283.out _).trans (hHeld.2.2.2.2.2.2.2.2.2.1)), ((cell_far (p := ⟨gb283, _, none⟩) NB280_283.out _).trans (hHeld.2.2.2.2.2.2.2.2.2.2.1)), ((cell_far (p := ⟨gb283, _, none⟩) NB280_283.out _).trans (hHeld.2.2.2.2.2.2.2.2.2.2.2.1)), ((cell_far (p := ⟨gb283, _, none⟩) NB280_283.out _).trans (hHeld.2.2.2.2.2.2.2.2.2.2.2.2.1)), ((cell_far (p := ⟨gb283, _, none⟩) NB280_283.out _).trans (hHeld.2.2.2.2.2.2.2.2.2.2.2.2.2))⟩ (fun hHeld => ?_)
            clear hK K
            refine pure_ (i := 12) (N := some 50) (v := ?_) (a' := ?_) #[true, true, true, true, true, true, true, true, true, true, true, true, true, false, false, false] rfl rfl (any_of HT_.out (by kernel_rfl)) (fun _ _ _ h => h) (Or.inl ⟨by rfl, ?_⟩) ?_ ?_
            rotate_left
            · intro w'
              go_simp
              with_reducible rfl
            rotate_left
            · simp only [Act.put, List.setIfInBounds_toArray, List.set_cons_zero, List.set_cons_succ, i64_w, i32_w]
              rfl
            refine one_ (i := 13) (N := none) #[true, true, true, true, true, true, true, true, true, true, true, true, true, true, false, false] rfl rfl (one_of HT_.out (by kernel_rfl)) (by decide) (fun K hK => ?_)
            have hs25 : w22.cell? ⟨gb283, 7, none⟩ = some (.int .i64 0) := (blk_cell BK283.out 7).trans rfl
            have hfs25 := blk_frozen BK283.out 7
            have hns25_0 := NB280_283.out
            have hms25_0 := NB283_280.out
            refine skip_ (w1 := ?_) (by rfl) rfl ?_ ?_
            rotate_left
            · go_simp
              rfl
            refine hK.out _ _ ⟨((cell_far (p := ⟨gb283, _, none⟩) NB280_283.out _).trans (hHeld.1)), ((cell_far (p := ⟨gb283, _, none⟩) NB280_283.out _).trans (hHeld.2.1)), ((cell_far (p := ⟨gb283, _, none⟩) NB280_283.out _).trans (hHeld.2.2.1)), ((cell_far (p := ⟨gb283, _, none⟩) NB280_283.out _).trans (hHeld.2.2.2.1)), ((cell_far (p := ⟨gb283, _, none⟩) NB280_283.out _).trans (hHeld.2.2.2.2.1)), ((cell_far (p := ⟨gb283, _, none⟩) NB280_283.out _).trans (hHeld.2.2.2.2.2.1)), ((cell_far (p := ⟨gb283, _, none⟩) NB280_283.out _).trans (hHeld.2.2.2.2.2.2.1)), ((cell_far (p := ⟨gb283, _, none⟩) NB280_283.out _).trans (hHeld.2.2.2.2.2.2.2.1)), ((cell_far (p := ⟨gb283, _, none⟩) NB280_283.out _).trans (hHeld.2.2.2.2.2.2.2.2.1)), ((cell_far (p := ⟨gb283, _, none⟩) NB280_283.out _).trans (hHeld.2.2.2.2.2.2.2.2.2.1)), ((cell_far (p := ⟨gb283, _, none⟩) NB280_283.out _).trans (hHeld.2.2.2.2.2.2.2.2.2.2.1)), ((cell_far (p := ⟨gb283, _, none⟩) NB280_283.out _).trans (hHeld.2.2.2.2.2.2.2.2.2.2.2.1)), ((cell_far (p := ⟨gb283, _, none⟩) NB280_283.out _).trans (hHeld.2.2.2.2.2.2.2.2.2.2.2.2.1)), ((cell_far (p := ⟨gb283, _, none⟩) NB280_283.out _).trans (hHeld.2.2.2.2.2.2.2.2.2.2.2.2.2))⟩ (fun hHeld => ?_)
            clear hK K
            refine pure_ (i := 14) (N := some 51) (v := ?_) (a' := ?_) #[true, true, true, true, true, true, true, true, true, true, true, true, true, true, true, false] rfl rfl (any_of HT_.out (by kernel_rfl)) (fun _ _ _ h => h) (Or.inl ⟨by rfl, ?_⟩) ?_ ?_
            rotate_left
            · intro w'
              go_simp
              with_reducible rfl
            rotate_left
            · simp only [Act.put, List.setIfInBounds_toArray, List.set_cons_zero, List.set_cons_succ, i64_w, i32_w]
              rfl
            refine one_ (i := 15) (N := none) #[true, true, true, true, true, true, true, true, true, true, true, true, true, true, true, true] rfl rfl (one_of HT_.out (by kernel_rfl)) (by decide) (fun K hK => ?_)
            have hs26 : w22.cell? ⟨gb283, 8, none⟩ = some (.int .i64 0) := (blk_cell BK283.out 8).trans rfl
            have hfs26 := blk_frozen BK283.out 8
            have hns26_0 := NB280_283.out
            have hms26_0 := NB283_280.out
            refine skip_ (w1 := ?_) (by rfl) rfl ?_ ?_
            rotate_left
            · go_simp
              rfl
            refine hK.out _ _ ⟨((cell_far (p := ⟨gb283, _, none⟩) NB280_283.out _).trans (hHeld.1)), ((cell_far (p := ⟨gb283, _, none⟩) NB280_283.out _).trans (hHeld.2.1)), ((cell_far (p := ⟨gb283, _, none⟩) NB280_283.out _).trans (hHeld.2.2.1)), ((cell_far (p := ⟨gb283, _, none⟩) NB280_283.out _).trans (hHeld.2.2.2.1)), ((cell_far (p := ⟨gb283, _, none⟩) NB280_283.out _).trans (hHeld.2.2.2.2.1)), ((cell_far (p := ⟨gb283, _, none⟩) NB280_283.out _).trans (hHeld.2.2.2.2.2.1)), ((cell_far (p := ⟨gb283, _, none⟩) NB280_283.out _).trans (hHeld.2.2.2.2.2.2.1)), ((cell_far (p := ⟨gb283, _, none⟩) NB280_283.out _).trans (hHeld.2.2.2.2.2.2.2.1)), ((cell_far (p := ⟨gb283, _, none⟩) NB280_283.out _).trans (hHeld.2.2.2.2.2.2.2.2.1)), ((cell_far (p := ⟨gb283, _, none⟩) NB280_283.out _).trans (hHeld.2.2.2.2.2.2.2.2.2.1)), ((cell_far (p := ⟨gb283, _, none⟩) NB280_283.out _).trans (hHeld.2.2.2.2.2.2.2.2.2.2.1)), ((cell_far (p := ⟨gb283, _, none⟩) NB280_283.out _).trans (hHeld.2.2.2.2.2.2.2.2.2.2.2.1)), ((cell_far (p := ⟨gb283, _, none⟩) NB280_283.out _).trans (hHeld.2.2.2.2.2.2.2.2.2.2.2.2.1)), ((cell_far (p := ⟨gb283, _, none⟩) NB280_283.out _).trans (hHeld.2.2.2.2.2.2.2.2.2.2.2.2.2))⟩ (fun hHeld => ?_)
            clear hK K
            refine done_ (done_of HT_.out (by kernel_rfl)) ?_
            try go_wp2
            go_meet
            case rel => exact ⟨_, (a0_5), (a0_6), (a0_7), (a0_8), H', ⟨by have := HJ1.out; first | omega | exact Nat.le_refl _⟩, ⟨by (with_reducible repeat (first | refine blk_drewN ?_ _ | refine blk_drew ?_ | refine blk_alloc ?_ _)); refine blk_far ?_ NB280_283.out _; (with_reducible repeat (first | refine blk_drewN ?_ _ | refine blk_drew ?_ | refine blk_alloc ?_ _)); refine blk_far ?_ NB280_283.out _; (with_reducible repeat (first | refine blk_drewN ?_ _ | refine blk_drew ?_ | refine blk_alloc ?_ _)); refine blk_far ?_ NB280_283.out _; (with_reducible repeat (first | refine blk_drewN ?_ _ | refine blk_drew ?_ | refine blk_alloc ?_ _)); refine blk_far ?_ NB280_283.out _; (with_reducible repeat (first | refine blk_drewN ?_ _ | refine blk_drew ?_ | refine blk_alloc ?_ _)); exact BK280.out⟩, ⟨by (with_reducible repeat (first | refine blk_drewN ?_ _ | refine blk_drew ?_ | refine blk_alloc ?_ _)); refine blk_put (cs := #[.int .i64 a0_0, .int .i64 a0_1, .int .i64 a0_2, .int .i64 a0_3, .bool a0_4, .int .i64 a0_5, .int .i64 a0_6, .int .i64 a0_7, .int .i64 0, .int .i64 0, .int .i64 0, .int .i64 0, .int .i64 0, .int .i64 0]) ?_ 8 _ rfl; (with_reducible repeat (first | refine blk_drewN ?_ _ | refine blk_drew ?_ | refine blk_alloc ?_ _)); refine blk_put (cs := #[.int .i64 a0_0, .int .i64 a0_1, .int .i64 a0_2, .int .i64 a0_3, .bool a0_4, .int .i64 a0_5, .int .i64 a0_6, .int .i64 0, .int .i64 0, .int .i64 0, .int .i64 0, .int .i64 0, .int .i64 0, .int .i64 0]) ?_ 7 _ rfl; (with_reducible repeat (first | refine blk_drewN ?_ _ | refine blk_drew ?_ | refine blk_alloc ?_ _)); refine blk_put (cs := #[.int .i64 a0_0, .int .i64 a0_1, .int .i64 a0_2, .int .i64 a0_3, .bool a0_4, .int .i64 a0_5, .int .i64 0, .int .i64 0, .int .i64 0, .int .i64 0, .int .i64 0, .int .i64 0, .int .i64 0, .int .i64 0]) ?_ 6 _ rfl; (with_reducible repeat (first | refine blk_drewN ?_ _ | refine blk_drew ?_ | refine blk_alloc ?_ _)); refine blk_put (cs := #[.int .i64 a0_0, .int .i64 a0_1, .int .i64 a0_2, .int .i64 a0_3, .bool a0_4, .int .i64 0, .int .i64 0, .int .i64 0, .int .i64 0, .int .i64 0, .int .i64 0, .int .i64 0, .int .i64 0, .int .i64 0]) ?_ 5 _ rfl; (with_reducible repeat (first | refine blk_drewN ?_ _ | refine blk_drew ?_ | refine blk_alloc ?_ _)); exact BK283.out⟩, ⟨by repeat (first | (with_reducible first | exact HB.out | apply below_alloc | apply pw_below_drewN | apply below_drew1 | refine below_set ?_ GE280.out | refine below_set ?_ GE283.out) | exact HB.out)⟩⟩
          case rest =>
            clear HC15
            try clear c1
            try clear p2
            try clear c3
            try clear c5
            try clear c7
            try clear c8
            try clear c8b0
            try clear c8b1
            try clear c13
            try clear c14
            try clear c14b0
            try clear c14b1
            try clear c18
            try clear hcz10_0
            try clear hcz10_1
            try clear hcz10_10
            try clear hcz10_11
            try clear hcz10_12
            try clear hcz10_13
            try clear hcz10_2
            try clear hcz10_3
            try clear hcz10_4
            try clear hcz10_5
            try clear hcz10_6
            try clear hcz10_7
            try clear hcz10_8
            try clear hcz10_9
            try clear hcz11_0
            try clear hcz11_1
            try clear hcz11_10
            try clear hcz11_11
            try clear hcz11_12
            try clear hcz11_13
            try clear hcz11_2
            try clear hcz11_3
            try clear hcz11_4
            try clear hcz11_5
            try clear hcz11_6
            try clear hcz11_7
            try clear hcz11_8
            try clear hcz11_9
            try clear hcz12_0
            try clear hcz12_1
            try clear hcz12_10
            try clear hcz12_11
            try clear hcz12_12
            try clear hcz12_13
            try clear hcz12_2
            try clear hcz12_3
            try clear hcz12_4
            try clear hcz12_5
            try clear hcz12_6
            try clear hcz12_7
            try clear hcz12_8
            try clear hcz12_9
            try clear hcz16_0
            try clear hcz16_1
            try clear hcz16_10
            try clear hcz16_11
            try clear hcz16_12
            try clear hcz16_13
            try clear hcz16_2
            try clear hcz16_3
            try clear hcz16_4
            try clear hcz16_5
            try clear hcz16_6
            try clear hcz16_7
            try clear hcz16_8
            try clear hcz16_9
            try clear hcz19_0
            try clear hcz19_1
            try clear hcz19_10
            try clear hcz19_11
            try clear hcz19_12
            try clear hcz19_13
            try clear hcz19_2
            try clear hcz19_3
            try clear hcz19_4
            try clear hcz19_5
            try clear hcz19_6
            try clear hcz19_7
            try clear hcz19_8
            try clear hcz19_9
            try clear hcz20_0
            try clear hcz20_1
            try clear hcz20_10
            try clear hcz20_11
            try clear hcz20_12
            try clear hcz20_13
            try clear hcz20_2
            try clear hcz20_3
            try clear hcz20_4
            try clear hcz20_5
            try clear hcz20_6
            try clear hcz20_7
            try clear hcz20_8
            try clear hcz20_9
            try clear hcz9_0
            try clear hcz9_1
            try clear hcz9_10
            try clear hcz9_11
            try clear hcz9_12
            try clear hcz9_13
            try clear hcz9_2
            try clear hcz9_3
            try clear hcz9_4
            try clear hcz9_5
            try clear hcz9_6
            try clear hcz9_7
            try clear hcz9_8
            try clear hcz9_9
            try clear hfz10_0
            try clear hfz10_1
            try clear hfz10_10
            try clear hfz10_11
            try clear hfz10_12
            try clear hfz10_13
            try clear hfz10_2
            try clear hfz10_3
            try clear hfz10_4
            try clear hfz10_5
            try clear hfz10_6
            try clear hfz10_7
            try clear hfz10_8
            try clear hfz10_9
            try clear hfz11_0
            try clear hfz11_1
            try clear hfz11_10
            try clear hfz11_11
            try clear hfz11_12
            try clear hfz11_13
            try clear hfz11_2
            try clear hfz11_3
            try clear hfz11_4
            try clear hfz11_5
            try clear hfz11_6
            try clear hfz11_7
            try clear hfz11_8
            try clear hfz11_9
            try clear hfz12_0
            try clear hfz12_1
            try clear hfz12_10
            try clear hfz12_11
            try clear hfz12_12
            try clear hfz12_13
            try clear hfz12_2
            try clear hfz12_3
            try clear hfz12_4
            try clear hfz12_5
            try clear hfz12_6
            try clear hfz12_7
            try clear hfz12_8
            try clear hfz12_9
            try clear hfz16_0
            try clear hfz16_1
            try clear hfz16_10
            try clear hfz16_11
            try clear hfz16_12
            try clear hfz16_13
            try clear hfz16_2
            try clear hfz16_3
            try clear hfz16_4
            try clear hfz16_5
            try clear hfz16_6
            try clear hfz16_7
            try clear hfz16_8
            try clear hfz16_9
            try clear hfz19_0
            try clear hfz19_1
            try clear hfz19_10
            try clear hfz19_11
            try clear hfz19_12
            try clear hfz19_13
            try clear hfz19_2
            try clear hfz19_3
            try clear hfz19_4
            try clear hfz19_5
            try clear hfz19_6
            try clear hfz19_7
            try clear hfz19_8
            try clear hfz19_9
            try clear hfz20_0
            try clear hfz20_1
            try clear hfz20_10
            try clear hfz20_11
            try clear hfz20_12
            try clear hfz20_13
            try clear hfz20_2
            try clear hfz20_3
            try clear hfz20_4
            try clear hfz20_5
            try clear hfz20_6
            try clear hfz20_7
            try clear hfz20_8
            try clear hfz20_9
            try clear hfz9_0
            try clear hfz9_1
            try clear hfz9_10
            try clear hfz9_11
            try clear hfz9_12
            try clear hfz9_13
            try clear hfz9_2
            try clear hfz9_3
            try clear hfz9_4
            try clear hfz9_5
            try clear hfz9_6
            try clear hfz9_7
            try clear hfz9_8
            try clear hfz9_9
            try clear p2
            obtain ⟨kq, x284005_14, x284006_14, x284007_14, x284008_14, HA, HJ14, BK280, BK283, HB⟩ := hcut
            cases kq with
            | zero => exact absurd HA.out (by simp [impl_TaskOk0.j1])
            | succ kj14 =>
              have H := HA.out
              clear HA
              simp only [impl_TaskOk0.j1] at H
              replace H := Option.bind_eq_some_iff.mp H
              obtain ⟨t284, A270, H⟩ := H
              replace H : (if t284 = true then ((impl_in.f a0_7 0 a0_5).bind fun t285 => (if t285 = true then ((impl_isUntil.f a0_8).bind fun t286 => (if t286 = true then (some (a0_0 == a0_0 && (a0_1 == a0_1 && (a0_2 == a0_2 && (a0_3 == a0_3 && (a0_4 == a0_4 && (a0_5 == x284005_14 && (a0_6 == x284006_14 && (a0_7 == x284007_14 && (a0_8 == x284008_14 && (a0_9 == 0 && (a0_10 == 0 && (a0_11 == 0 && (a0_12 == 0 && (a0_13 == 0))))))))))))))) else (some false))) else (some false))) else (some false)) = some r := H
              have A27 := Aside0.mk A270
              clear A270
              by_cases c28 : t284 = true
              · subst c28
                have H1 : ((impl_in.f a0_7 0 a0_5).bind fun t285 => (if t285 = true then ((impl_isUntil.f a0_8).bind fun t286 => (if t286 = true then (some (a0_0 == a0_0 && (a0_1 == a0_1 && (a0_2 == a0_2 && (a0_3 == a0_3 && (a0_4 == a0_4 && (a0_5 == x284005_14 && (a0_6 == x284006_14 && (a0_7 == x284007_14 && (a0_8 == x284008_14 && (a0_9 == 0 && (a0_10 == 0 && (a0_11 == 0 && (a0_12 == 0 && (a0_13 == 0))))))))))))))) else (some false))) else (some false))) = some r := by rw [if_pos rfl] at H; exact H
                clear H
                have H := H1
                clear H1
                replace H := Option.bind_eq_some_iff.mp H
                obtain ⟨t285, A290, H⟩ := H
                replace H : (if t285 = true then ((impl_isUntil.f a0_8).bind fun t286 => (if t286 = true then (some (a0_0 == a0_0 && (a0_1 == a0_1 && (a0_2 == a0_2 && (a0_3 == a0_3 && (a0_4 == a0_4 && (a0_5 == x284005_14 && (a0_6 == x284006_14 && (a0_7 == x284007_14 && (a0_8 == x284008_14 && (a0_9 == 0 && (a0_10 == 0 && (a0_11 == 0 && (a0_12 == 0 && (a0_13 == 0))))))))))))))) else (some false))) else (some false)) = some r := H
                have A29 := Aside0.mk A290
                clear A290
                by_cases c30 : t285 = true
                · subst c30
                  have H1 : ((impl_isUntil.f a0_8).bind fun t286 => (if t286 = true then (some (a0_0 == a0_0 && (a0_1 == a0_1 && (a0_2 == a0_2 && (a0_3 == a0_3 && (a0_4 == a0_4 && (a0_5 == x284005_14 && (a0_6 == x284006_14 && (a0_7 == x284007_14 && (a0_8 == x284008_14 && (a0_9 == 0 && (a0_10 == 0 && (a0_11 == 0 && (a0_12 == 0 && (a0_13 == 0))))))))))))))) else (some false))) = some r := by rw [if_pos rfl] at H; exact H
                  clear H
                  have H := H1
                  clear H1
                  replace H := Option.bind_eq_some_iff.mp H
                  obtain ⟨t286, A310, H⟩ := H
                  replace H : (if t286 = true then (some (a0_0 == a0_0 && (a0_1 == a0_1 && (a0_2 == a0_2 && (a0_3 == a0_3 && (a0_4 == a0_4 && (a0_5 == x284005_14 && (a0_6 == x284006_14 && (a0_7 == x284007_14 && (a0_8 == x284008_14 && (a0_9 == 0 && (a0_10 == 0 && (a0_11 == 0 && (a0_12 == 0 && (a0_13 == 0))))))))))))))) else (some false)) = some r := H
                  have A31 := Aside0.mk A310
                  clear A310
                  by_cases c32 : t286 = true
                  · subst c32
                    have H1 : (some (a0_0 == a0_0 && (a0_1 == a0_1 && (a0_2 == a0_2 && (a0_3 == a0_3 && (a0_4 == a0_4 && (a0_5 == x284005_14 && (a0_6 == x284006_14 && (a0_7 == x284007_14 && (a0_8 == x284008_14 && (a0_9 == 0 && (a0_10 == 0 && (a0_11 == 0 && (a0_12 == 0 && (a0_13 == 0))))))))))))))) = some r := by rw [if_pos rfl] at H; exact H
                    clear H
                    have H := H1
                    clear H1
                    obtain rfl := Option.some.inj H
                    have hnb33 := NB280_283.out
                    have hnc33 := NB283_280.out
                    have hcz34_0 : wc.cell? ⟨gb280, 0, none⟩ = some (.int .i64 a0_0) := (blk_cell BK280.out 0).trans rfl
                    have hcz34_1 : wc.cell? ⟨gb280, 1, none⟩ = some (.int .i64 a0_1) := (blk_cell BK280.out 1).trans rfl
                    have hcz34_2 : wc.cell? ⟨gb280, 2, none⟩ = some (.int .i64 a0_2) := (blk_cell BK280.out 2).trans rfl
                    have hcz34_3 : wc.cell? ⟨gb280, 3, none⟩ = some (.int .i64 a0_3) := (blk_cell BK280.out 3).trans rfl
                    have hcz34_4 : wc.cell? ⟨gb280, 4, none⟩ = some (.bool a0_4) := (blk_cell BK280.out 4).trans rfl
                    have hcz34_5 : wc.cell? ⟨gb280, 5, none⟩ = some (.int .i64 a0_5) := (blk_cell BK280.out 5).trans rfl
                    have hcz34_6 : wc.cell? ⟨gb280, 6, none⟩ = some (.int .i64 a0_6) := (blk_cell BK280.out 6).trans rfl
                    have hcz34_7 : wc.cell? ⟨gb280, 7, none⟩ = some (.int .i64 a0_7) := (blk_cell BK280.out 7).trans rfl
                    have hcz34_8 : wc.cell? ⟨gb280, 8, none⟩ = some (.int .i64 a0_8) := (blk_cell BK280.out 8).trans rfl
                    have hcz34_9 : wc.cell? ⟨gb280, 9, none⟩ = some (.int .i64 a0_9) := (blk_cell BK280.out 9).trans rfl
                    have hcz34_10 : wc.cell? ⟨gb280, 10, none⟩ = some (.int .i64 a0_10) := (blk_cell BK280.out 10).trans rfl
                    have hcz34_11 : wc.cell? ⟨gb280, 11, none⟩ = some (.int .i64 a0_11) := (blk_cell BK280.out 11).trans rfl
                    have hcz34_12 : wc.cell? ⟨gb280, 12, none⟩ = some (.int .i64 a0_12) := (blk_cell BK280.out 12).trans rfl
                    have hcz34_13 : wc.cell? ⟨gb280, 13, none⟩ = some (.int .i64 a0_13) := (blk_cell BK280.out 13).trans rfl
                    have hfz34_0 := blk_frozen BK280.out 0
                    have hfz34_1 := blk_frozen BK280.out 1
                    have hfz34_2 := blk_frozen BK280.out 2
                    have hfz34_3 := blk_frozen BK280.out 3
                    have hfz34_4 := blk_frozen BK280.out 4
                    have hfz34_5 := blk_frozen BK280.out 5
                    have hfz34_6 := blk_frozen BK280.out 6
                    have hfz34_7 := blk_frozen BK280.out 7
                    have hfz34_8 := blk_frozen BK280.out 8
                    have hfz34_9 := blk_frozen BK280.out 9
                    have hfz34_10 := blk_frozen BK280.out 10
                    have hfz34_11 := blk_frozen BK280.out 11
                    have hfz34_12 := blk_frozen BK280.out 12
                    have hfz34_13 := blk_frozen BK280.out 13
                    go_wp2_with (first | ((with_reducible refine gate_callee (f := 19) rfl ?_); refine goesL_ (some 57) rfl rfl Try.func19 (by kernel_rfl) rfl #[.agg #[.int .i64 a0_5, .int .i64 a0_6]] rfl (by (try simp only [List.map_toArray, List.map_cons, List.map_nil]); first | done | rfl | (simp only [List.length_drop, List.length_take]; rfl)) ?_; (with_reducible refine (impl_ShareOk.calls a0_5 a0_6 true _ A27.out).mono ?_); rintro e w35 ⟨rfl, hb⟩; refine ⟨_, rfl, ?_⟩; have n0_ := Aside0.mk (blk_below (g := gb280) (o := .cells #[.int .i64 a0_0, .int .i64 a0_1, .int .i64 a0_2, .int .i64 a0_3, .bool a0_4, .int .i64 a0_5, .int .i64 a0_6, .int .i64 a0_7, .int .i64 a0_8, .int .i64 a0_9, .int .i64 a0_10, .int .i64 a0_11, .int .i64 a0_12, .int .i64 a0_13] 48 (0, 0)) (by (with_reducible repeat (first | refine blk_drewN ?_ _ | refine blk_drew ?_ | refine blk_alloc ?_ _)); exact BK280.out) hb); have n1_ := Aside0.mk (blk_below (g := gb283) (o := .cells #[.int .i64 a0_0, .int .i64 a0_1, .int .i64 a0_2, .int .i64 a0_3, .bool a0_4, .int .i64 x284005_14, .int .i64 x284006_14, .int .i64 x284007_14, .int .i64 x284008_14, .int .i64 0, .int .i64 0, .int .i64 0, .int .i64 0, .int .i64 0] 48 (0, 0)) (by (with_reducible repeat (first | refine blk_drewN ?_ _ | refine blk_drew ?_ | refine blk_alloc ?_ _)); exact BK283.out) hb); have n2_ := Aside0.mk (below_step (by repeat (first | (with_reducible first | exact HB.out | apply below_alloc | apply pw_below_drewN | apply below_drew1 | refine below_set ?_ GE280.out | refine below_set ?_ GE283.out) | exact HB.out)) hb); clear BK280; clear BK283; clear HB; have BK280 := n0_; have BK283 := n1_; have HB := n2_; clear n0_ n1_ n2_; (try clear hb); (try clear hb2); (try clear hk); (try clear hi); have hcz36_0 : w35.cell? ⟨gb280, 0, none⟩ = some (.int .i64 a0_0) := (blk_cell BK280.out 0).trans rfl; have hcz36_1 : w35.cell? ⟨gb280, 1, none⟩ = some (.int .i64 a0_1) := (blk_cell BK280.out 1).trans rfl; have hcz36_2 : w35.cell? ⟨gb280, 2, none⟩ = some (.int .i64 a0_2) := (blk_cell BK280.out 2).trans rfl; have hcz36_3 : w35.cell? ⟨gb280, 3, none⟩ = some (.int .i64 a0_3) := (blk_cell BK280.out 3).trans rfl; have hcz36_4 : w35.cell? ⟨gb280, 4, none⟩ = some (.bool a0_4) := (blk_cell BK280.out 4).trans rfl; have hcz36_5 : w35.cell? ⟨gb280, 5, none⟩ = some (.int .i64 a0_5) := (blk_cell BK280.out 5).trans rfl; have hcz36_6 : w35.cell? ⟨gb280, 6, none⟩ = some (.int .i64 a0_6) := (blk_cell BK280.out 6).trans rfl; have hcz36_7 : w35.cell? ⟨gb280, 7, none⟩ = some (.int .i64 a0_7) := (blk_cell BK280.out 7).trans rfl; have hcz36_8 : w35.cell? ⟨gb280, 8, none⟩ = some (.int .i64 a0_8) := (blk_cell BK280.out 8).trans rfl; have hcz36_9 : w35.cell? ⟨gb280, 9, none⟩ = some (.int .i64 a0_9) := (blk_cell BK280.out 9).trans rfl; have hcz36_10 : w35.cell? ⟨gb280, 10, none⟩ = some (.int .i64 a0_10) := (blk_cell BK280.out 10).trans rfl; have hcz36_11 : w35.cell? ⟨gb280, 11, none⟩ = some (.int .i64 a0_11) := (blk_cell BK280.out 11).trans rfl; have hcz36_12 : w35.cell? ⟨gb280, 12, none⟩ = some (.int .i64 a0_12) := (blk_cell BK280.out 12).trans rfl; have hcz36_13 : w35.cell? ⟨gb280, 13, none⟩ = some (.int .i64 a0_13) := (blk_cell BK280.out 13).trans rfl; have hfz36_0 := blk_frozen BK280.out 0; have hfz36_1 := blk_frozen BK280.out 1; have hfz36_2 := blk_frozen BK280.out 2; have hfz36_3 := blk_frozen BK280.out 3; have hfz36_4 := blk_frozen BK280.out 4; have hfz36_5 := blk_frozen BK280.out 5; have hfz36_6 := blk_frozen BK280.out 6; have hfz36_7 := blk_frozen BK280.out 7; have hfz36_8 := blk_frozen BK280.out 8; have hfz36_9 := blk_frozen BK280.out 9; have hfz36_10 := blk_frozen BK280.out 10; have hfz36_11 := blk_frozen BK280.out 11; have hfz36_12 := blk_frozen BK280.out 12; have hfz36_13 := blk_frozen BK280.out 13) | (go_at_call 42; (with_reducible refine (impl_in.calls a0_7 0 a0_5 true _ A29.out).mono ?_); rintro e w' ⟨rfl, ⟨nd, rfl⟩⟩) | (go_at_call 52; (with_reducible refine (impl_isUntil.calls a0_8 true _ A31.out).mono ?_); rintro e w' ⟨rfl, ⟨nd, rfl⟩⟩; have hcz37_0 : w35.cell? ⟨gb283, 0, none⟩ = some (.int .i64 a0_0) := (blk_cell BK283.out 0).trans rfl; have hcz37_1 : w35.cell? ⟨gb283, 1, none⟩ = some (.int .i64 a0_1) := (blk_cell BK283.out 1).trans rfl; have hcz37_2 : w35.cell? ⟨gb283, 2, none⟩ = some (.int .i64 a0_2) := (blk_cell BK283.out 2).trans rfl; have hcz37_3 : w35.cell? ⟨gb283, 3, none⟩ = some (.int .i64 a0_3) := (blk_cell BK283.out 3).trans rfl; have hcz37_4 : w35.cell? ⟨gb283, 4, none⟩ = some (.bool a0_4) := (blk_cell BK283.out 4).trans rfl; have hcz37_5 : w35.cell? ⟨gb283, 5, none⟩ = some (.int .i64 x284005_14) := (blk_cell BK283.out 5).trans rfl; have hcz37_6 : w35.cell? ⟨gb283, 6, none⟩ = some (.int .i64 x284006_14) := (blk_cell BK283.out 6).trans rfl; have hcz37_7 : w35.cell? ⟨gb283, 7, none⟩ = some (.int .i64 x284007_14) := (blk_cell BK283.out 7).trans rfl; have hcz37_8 : w35.cell? ⟨gb283, 8, none⟩ = some (.int .i64 x284008_14) := (blk_cell BK283.out 8).trans rfl; have hcz37_9 : w35.cell? ⟨gb283, 9, none⟩ = some (.int .i64 0) := (blk_cell BK283.out 9).trans rfl; have hcz37_10 : w35.cell? ⟨gb283, 10, none⟩ = some (.int .i64 0) := (blk_cell BK283.out 10).trans rfl; have hcz37_11 : w35.cell? ⟨gb283, 11, none⟩ = some (.int .i64 0) := (blk_cell BK283.out 11).trans rfl; have hcz37_12 : w35.cell? ⟨gb283, 12, none⟩ = some (.int .i64 0) := (blk_cell BK283.out 12).trans rfl; have hcz37_13 : w35.cell? ⟨gb283, 13, none⟩ = some (.int .i64 0) := (blk_cell BK283.out 13).trans rfl; have hfz37_0 := blk_frozen BK283.out 0; have hfz37_1 := blk_frozen BK283.out 1; have hfz37_2 := blk_frozen BK283.out 2; have hfz37_3 := blk_frozen BK283.out 3; have hfz37_4 := blk_frozen BK283.out 4; have hfz37_5 := blk_frozen BK283.out 5; have hfz37_6 := blk_frozen BK283.out 6; have hfz37_7 := blk_frozen BK283.out 7; have hfz37_8 := blk_frozen BK283.out 8; have hfz37_9 := blk_frozen BK283.out 9; have hfz37_10 := blk_frozen BK283.out 10; have hfz37_11 := blk_frozen BK283.out 11; have hfz37_12 := blk_frozen BK283.out 12; have hfz37_13 := blk_frozen BK283.out 13))
                    go_ret
                    exact ⟨by first | rfl | (simp [errW_none, errW_some] <;> rfl) | (simp [*, errW_none, errW_some] <;> rfl), by repeat (first | (with_reducible first | exact HB.out | apply below_alloc | apply pw_below_drewN | apply below_drew1 | refine below_set ?_ GE280.out | refine below_set ?_ GE283.out) | exact HB.out)⟩
                  · replace c32 := Bool.eq_false_iff.mpr c32
                    subst c32
                    have H1 : (some false) = some r := by rw [if_neg (show ¬ (false = true) by decide)] at H; exact H
                    clear H
                    have H := H1
                    clear H1
                    obtain rfl := Option.some.inj H
                    have hnb38 := NB280_283.out
                    have hnc38 := NB283_280.out
                    have hcz39_0 : wc.cell? ⟨gb280, 0, none⟩ = some (.int .i64 a0_0) := (blk_cell BK280.out 0).trans rfl
                    have hcz39_1 : wc.cell? ⟨gb280, 1, none⟩ = some (.int .i64 a0_1) := (blk_cell BK280.out 1).trans rfl
                    have hcz39_2 : wc.cell? ⟨gb280, 2, none⟩ = some (.int .i64 a0_2) := (blk_cell BK280.out 2).trans rfl
                    have hcz39_3 : wc.cell? ⟨gb280, 3, none⟩ = some (.int .i64 a0_3) := (blk_cell BK280.out 3).trans rfl
                    have hcz39_4 : wc.cell? ⟨gb280, 4, none⟩ = some (.bool a0_4) := (blk_cell BK280.out 4).trans rfl
                    have hcz39_5 : wc.cell? ⟨gb280, 5, none⟩ = some (.int .i64 a0_5) := (blk_cell BK280.out 5).trans rfl
                    have hcz39_6 : wc.cell? ⟨gb280, 6, none⟩ = some (.int .i64 a0_6) := (blk_cell BK280.out 6).trans rfl
                    have hcz39_7 : wc.cell? ⟨gb280, 7, none⟩ = some (.int .i64 a0_7) := (blk_cell BK280.out 7).trans rfl
                    have hcz39_8 : wc.cell? ⟨gb280, 8, none⟩ = some (.int .i64 a0_8) := (blk_cell BK280.out 8).trans rfl
                    have hcz39_9 : wc.cell? ⟨gb280, 9, none⟩ = some (.int .i64 a0_9) := (blk_cell BK280.out 9).trans rfl
                    have hcz39_10 : wc.cell? ⟨gb280, 10, none⟩ = some (.int .i64 a0_10) := (blk_cell BK280.out 10).trans rfl
                    have hcz39_11 : wc.cell? ⟨gb280, 11, none⟩ = some (.int .i64 a0_11) := (blk_cell BK280.out 11).trans rfl
                    have hcz39_12 : wc.cell? ⟨gb280, 12, none⟩ = some (.int .i64 a0_12) := (blk_cell BK280.out 12).trans rfl
                    have hcz39_13 : wc.cell? ⟨gb280, 13, none⟩ = some (.int .i64 a0_13) := (blk_cell BK280.out 13).trans rfl
                    have hfz39_0 := blk_frozen BK280.out 0
                    have hfz39_1 := blk_frozen BK280.out 1
                    have hfz39_2 := blk_frozen BK280.out 2
                    have hfz39_3 := blk_frozen BK280.out 3
                    have hfz39_4 := blk_frozen BK280.out 4
                    have hfz39_5 := blk_frozen BK280.out 5
                    have hfz39_6 := blk_frozen BK280.out 6
                    have hfz39_7 := blk_frozen BK280.out 7
                    have hfz39_8 := blk_frozen BK280.out 8
                    have hfz39_9 := blk_frozen BK280.out 9
                    have hfz39_10 := blk_frozen BK280.out 10
                    have hfz39_11 := blk_frozen BK280.out 11
                    have hfz39_12 := blk_frozen BK280.out 12
                    have hfz39_13 := blk_frozen BK280.out 13
                    go_wp2_with (first | ((with_reducible refine gate_callee (f := 19) rfl ?_); refine goesL_ (some 57) rfl rfl Try.func19 (by kernel_rfl) rfl #[.agg #[.int .i64 a0_5, .int .i64 a0_6]] rfl (by (try simp only [List.map_toArray, List.map_cons, List.map_nil]); first | done | rfl | (simp only [List.length_drop, List.length_take]; rfl)) ?_; (with_reducible refine (impl_ShareOk.calls a0_5 a0_6 true _ A27.out).mono ?_); rintro e w40 ⟨rfl, hb⟩; refine ⟨_, rfl, ?_⟩; have n0_ := Aside0.mk (blk_below (g := gb280) (o := .cells #[.int .i64 a0_0, .int .i64 a0_1, .int .i64 a0_2, .int .i64 a0_3, .bool a0_4, .int .i64 a0_5, .int .i64 a0_6, .int .i64 a0_7, .int .i64 a0_8, .int .i64 a0_9, .int .i64 a0_10, .int .i64 a0_11, .int .i64 a0_12, .int .i64 a0_13] 48 (0, 0)) (by (with_reducible repeat (first | refine blk_drewN ?_ _ | refine blk_drew ?_ | refine blk_alloc ?_ _)); exact BK280.out) hb); have n1_ := Aside0.mk (blk_below (g := gb283) (o := .cells #[.int .i64 a0_0, .int .i64 a0_1, .int .i64 a0_2, .int .i64 a0_3, .bool a0_4, .int .i64 x284005_14, .int .i64 x284006_14, .int .i64 x284007_14, .int .i64 x284008_14, .int .i64 0, .int .i64 0, .int .i64 0, .int .i64 0, .int .i64 0] 48 (0, 0)) (by (with_reducible repeat (first | refine blk_drewN ?_ _ | refine blk_drew ?_ | refine blk_alloc ?_ _)); exact BK283.out) hb); have n2_ := Aside0.mk (below_step (by repeat (first | (with_reducible first | exact HB.out | apply below_alloc | apply pw_below_drewN | apply below_drew1 | refine below_set ?_ GE280.out | refine below_set ?_ GE283.out) | exact HB.out)) hb); clear BK280; clear BK283; clear HB; have BK280 := n0_; have BK283 := n1_; have HB := n2_; clear n0_ n1_ n2_; (try clear hb); (try clear hb2); (try clear hk); (try clear hi); have hcz41_0 : w40.cell? ⟨gb280, 0, none⟩ = some (.int .i64 a0_0) := (blk_cell BK280.out 0).trans rfl; have hcz41_1 : w40.cell? ⟨gb280, 1, none⟩ = some (.int .i64 a0_1) := (blk_cell BK280.out 1).trans rfl; have hcz41_2 : w40.cell? ⟨gb280, 2, none⟩ = some (.int .i64 a0_2) := (blk_cell BK280.out 2).trans rfl; have hcz41_3 : w40.cell? ⟨gb280, 3, none⟩ = some (.int .i64 a0_3) := (blk_cell BK280.out 3).trans rfl; have hcz41_4 : w40.cell? ⟨gb280, 4, none⟩ = some (.bool a0_4) := (blk_cell BK280.out 4).trans rfl; have hcz41_5 : w40.cell? ⟨gb280, 5, none⟩ = some (.int .i64 a0_5) := (blk_cell BK280.out 5).trans rfl; have hcz41_6 : w40.cell? ⟨gb280, 6, none⟩ = some (.int .i64 a0_6) := (blk_cell BK280.out 6).trans rfl; have hcz41_7 : w40.cell? ⟨gb280, 7, none⟩ = some (.int .i64 a0_7) := (blk_cell BK280.out 7).trans rfl; have hcz41_8 : w40.cell? ⟨gb280, 8, none⟩ = some (.int .i64 a0_8) := (blk_cell BK280.out 8).trans rfl; have hcz41_9 : w40.cell? ⟨gb280, 9, none⟩ = some (.int .i64 a0_9) := (blk_cell BK280.out 9).trans rfl; have hcz41_10 : w40.cell? ⟨gb280, 10, none⟩ = some (.int .i64 a0_10) := (blk_cell BK280.out 10).trans rfl; have hcz41_11 : w40.cell? ⟨gb280, 11, none⟩ = some (.int .i64 a0_11) := (blk_cell BK280.out 11).trans rfl; have hcz41_12 : w40.cell? ⟨gb280, 12, none⟩ = some (.int .i64 a0_12) := (blk_cell BK280.out 12).trans rfl; have hcz41_13 : w40.cell? ⟨gb280, 13, none⟩ = some (.int .i64 a0_13) := (blk_cell BK280.out 13).trans rfl; have hfz41_0 := blk_frozen BK280.out 0; have hfz41_1 := blk_frozen BK280.out 1; have hfz41_2 := blk_frozen BK280.out 2; have hfz41_3 := blk_frozen BK280.out 3; have hfz41_4 := blk_frozen BK280.out 4; have hfz41_5 := blk_frozen BK280.out 5; have hfz41_6 := blk_frozen BK280.out 6; have hfz41_7 := blk_frozen BK280.out 7; have hfz41_8 := blk_frozen BK280.out 8; have hfz41_9 := blk_frozen BK280.out 9; have hfz41_10 := blk_frozen BK280.out 10; have hfz41_11 := blk_frozen BK280.out 11; have hfz41_12 := blk_frozen BK280.out 12; have hfz41_13 := blk_frozen BK280.out 13) | (go_at_call 42; (with_reducible refine (impl_in.calls a0_7 0 a0_5 true _ A29.out).mono ?_); rintro e w' ⟨rfl, ⟨nd, rfl⟩⟩) | (go_at_call 52; (with_reducible refine (impl_isUntil.calls a0_8 false _ A31.out).mono ?_); rintro e w' ⟨rfl, ⟨nd, rfl⟩⟩))
                    go_ret
                    exact ⟨by first | rfl | (simp [errW_none, errW_some] <;> rfl) | (simp [*, errW_none, errW_some] <;> rfl), by repeat (first | (with_reducible first | exact HB.out | apply below_alloc | apply pw_below_drewN | apply below_drew1 | refine below_set ?_ GE280.out | refine below_set ?_ GE283.out) | exact HB.out)⟩
                · replace c30 := Bool.eq_false_iff.mpr c30
                  subst c30
                  have H1 : (some false) = some r := by rw [if_neg (show ¬ (false = true) by decide)] at H; exact H
                  clear H
                  have H := H1
                  clear H1
                  obtain rfl := Option.some.inj H
                  have hnb42 := NB280_283.out
                  have hnc42 := NB283_280.out
                  have hcz43_0 : wc.cell? ⟨gb280, 0, none⟩ = some (.int .i64 a0_0) := (blk_cell BK280.out 0).trans rfl
                  have hcz43_1 : wc.cell? ⟨gb280, 1, none⟩ = some (.int .i64 a0_1) := (blk_cell BK280.out 1).trans rfl
                  have hcz43_2 : wc.cell? ⟨gb280, 2, none⟩ = some (.int .i64 a0_2) := (blk_cell BK280.out 2).trans rfl
                  have hcz43_3 : wc.cell? ⟨gb280, 3, none⟩ = some (.int .i64 a0_3) := (blk_cell BK280.out 3).trans rfl
                  have hcz43_4 : wc.cell? ⟨gb280, 4, none⟩ = some (.bool a0_4) := (blk_cell BK280.out 4).trans rfl
                  have hcz43_5 : wc.cell? ⟨gb280, 5, none⟩ = some (.int .i64 a0_5) := (blk_cell BK280.out 5).trans rfl
                  have hcz43_6 : wc.cell? ⟨gb280, 6, none⟩ = some (.int .i64 a0_6) := (blk_cell BK280.out 6).trans rfl
                  have hcz43_7 : wc.cell? ⟨gb280, 7, none⟩ = some (.int .i64 a0_7) := (blk_cell BK280.out 7).trans rfl
                  have hcz43_8 : wc.cell? ⟨gb280, 8, none⟩ = some (.int .i64 a0_8) := (blk_cell BK280.out 8).trans rfl
                  have hcz43_9 : wc.cell? ⟨gb280, 9, none⟩ = some (.int .i64 a0_9) := (blk_cell BK280.out 9).trans rfl
                  have hcz43_10 : wc.cell? ⟨gb280, 10, none⟩ = some (.int .i64 a0_10) := (blk_cell BK280.out 10).trans rfl
                  have hcz43_11 : wc.cell? ⟨gb280, 11, none⟩ = some (.int .i64 a0_11) := (blk_cell BK280.out 11).trans rfl
                  have hcz43_12 : wc.cell? ⟨gb280, 12, none⟩ = some (.int .i64 a0_12) := (blk_cell BK280.out 12).trans rfl
                  have hcz43_13 : wc.cell? ⟨gb280, 13, none⟩ = some (.int .i64 a0_13) := (blk_cell BK280.out 13).trans rfl
                  have hfz43_0 := blk_frozen BK280.out 0
                  have hfz43_1 := blk_frozen BK280.out 1
                  have hfz43_2 := blk_frozen BK280.out 2
                  have hfz43_3 := blk_frozen BK280.out 3
                  have hfz43_4 := blk_frozen BK280.out 4
                  have hfz43_5 := blk_frozen BK280.out 5
                  have hfz43_6 := blk_frozen BK280.out 6
                  have hfz43_7 := blk_frozen BK280.out 7
                  have hfz43_8 := blk_frozen BK280.out 8
                  have hfz43_9 := blk_frozen BK280.out 9
                  have hfz43_10 := blk_frozen BK280.out 10
                  have hfz43_11 := blk_frozen BK280.out 11
                  have hfz43_12 := blk_frozen BK280.out 12
                  have hfz43_13 := blk_frozen BK280.out 13
                  go_wp2_with (first | ((with_reducible refine gate_callee (f := 19) rfl ?_); refine goesL_ (some 57) rfl rfl Try.func19 (by kernel_rfl) rfl #[.agg #[.int .i64 a0_5, .int .i64 a0_6]] rfl (by (try simp only [List.map_toArray, List.map_cons, List.map_nil]); first | done | rfl | (simp only [List.length_drop, List.length_take]; rfl)) ?_; (with_reducible refine (impl_ShareOk.calls a0_5 a0_6 true _ A27.out).mono ?_); rintro e w44 ⟨rfl, hb⟩; refine ⟨_, rfl, ?_⟩; have n0_ := Aside0.mk (blk_below (g := gb280) (o := .cells #[.int .i64 a0_0, .int .i64 a0_1, .int .i64 a0_2, .int .i64 a0_3, .bool a0_4, .int .i64 a0_5, .int .i64 a0_6, .int .i64 a0_7, .int .i64 a0_8, .int .i64 a0_9, .int .i64 a0_10, .int .i64 a0_11, .int .i64 a0_12, .int .i64 a0_13] 48 (0, 0)) (by (with_reducible repeat (first | refine blk_drewN ?_ _ | refine blk_drew ?_ | refine blk_alloc ?_ _)); exact BK280.out) hb); have n1_ := Aside0.mk (blk_below (g := gb283) (o := .cells #[.int .i64 a0_0, .int .i64 a0_1, .int .i64 a0_2, .int .i64 a0_3, .bool a0_4, .int .i64 x284005_14, .int .i64 x284006_14, .int .i64 x284007_14, .int .i64 x284008_14, .int .i64 0, .int .i64 0, .int .i64 0, .int .i64 0, .int .i64 0] 48 (0, 0)) (by (with_reducible repeat (first | refine blk_drewN ?_ _ | refine blk_drew ?_ | refine blk_alloc ?_ _)); exact BK283.out) hb); have n2_ := Aside0.mk (below_step (by repeat (first | (with_reducible first | exact HB.out | apply below_alloc | apply pw_below_drewN | apply below_drew1 | refine below_set ?_ GE280.out | refine below_set ?_ GE283.out) | exact HB.out)) hb); clear BK280; clear BK283; clear HB; have BK280 := n0_; have BK283 := n1_; have HB := n2_; clear n0_ n1_ n2_; (try clear hb); (try clear hb2); (try clear hk); (try clear hi); have hcz45_0 : w44.cell? ⟨gb280, 0, none⟩ = some (.int .i64 a0_0) := (blk_cell BK280.out 0).trans rfl; have hcz45_1 : w44.cell? ⟨gb280, 1, none⟩ = some (.int .i64 a0_1) := (blk_cell BK280.out 1).trans rfl; have hcz45_2 : w44.cell? ⟨gb280, 2, none⟩ = some (.int .i64 a0_2) := (blk_cell BK280.out 2).trans rfl; have hcz45_3 : w44.cell? ⟨gb280, 3, none⟩ = some (.int .i64 a0_3) := (blk_cell BK280.out 3).trans rfl; have hcz45_4 : w44.cell? ⟨gb280, 4, none⟩ = some (.bool a0_4) := (blk_cell BK280.out 4).trans rfl; have hcz45_5 : w44.cell? ⟨gb280, 5, none⟩ = some (.int .i64 a0_5) := (blk_cell BK280.out 5).trans rfl; have hcz45_6 : w44.cell? ⟨gb280, 6, none⟩ = some (.int .i64 a0_6) := (blk_cell BK280.out 6).trans rfl; have hcz45_7 : w44.cell? ⟨gb280, 7, none⟩ = some (.int .i64 a0_7) := (blk_cell BK280.out 7).trans rfl; have hcz45_8 : w44.cell? ⟨gb280, 8, none⟩ = some (.int .i64 a0_8) := (blk_cell BK280.out 8).trans rfl; have hcz45_9 : w44.cell? ⟨gb280, 9, none⟩ = some (.int .i64 a0_9) := (blk_cell BK280.out 9).trans rfl; have hcz45_10 : w44.cell? ⟨gb280, 10, none⟩ = some (.int .i64 a0_10) := (blk_cell BK280.out 10).trans rfl; have hcz45_11 : w44.cell? ⟨gb280, 11, none⟩ = some (.int .i64 a0_11) := (blk_cell BK280.out 11).trans rfl; have hcz45_12 : w44.cell? ⟨gb280, 12, none⟩ = some (.int .i64 a0_12) := (blk_cell BK280.out 12).trans rfl; have hcz45_13 : w44.cell? ⟨gb280, 13, none⟩ = some (.int .i64 a0_13) := (blk_cell BK280.out 13).trans rfl; have hfz45_0 := blk_frozen BK280.out 0; have hfz45_1 := blk_frozen BK280.out 1; have hfz45_2 := blk_frozen BK280.out 2; have hfz45_3 := blk_frozen BK280.out 3; have hfz45_4 := blk_frozen BK280.out 4; have hfz45_5 := blk_frozen BK280.out 5; have hfz45_6 := blk_frozen BK280.out 6; have hfz45_7 := blk_frozen BK280.out 7; have hfz45_8 := blk_frozen BK280.out 8; have hfz45_9 := blk_frozen BK280.out 9; have hfz45_10 := blk_frozen BK280.out 10; have hfz45_11 := blk_frozen BK280.out 11; have hfz45_12 := blk_frozen BK280.out 12; have hfz45_13 := blk_frozen BK280.out 13) | (go_at_call 42; (with_reducible refine (impl_in.calls a0_7 0 a0_5 false _ A29.out).mono ?_); rintro e w' ⟨rfl, ⟨nd, rfl⟩⟩))
                  go_ret
                  exact ⟨by first | rfl | (simp [errW_none, errW_some] <;> rfl) | (simp [*, errW_none, errW_some] <;> rfl), by repeat (first | (with_reducible first | exact HB.out | apply below_alloc | apply pw_below_drewN | apply below_drew1 | refine below_set ?_ GE280.out | refine below_set ?_ GE283.out) | exact HB.out)⟩
              · replace c28 := Bool.eq_false_iff.mpr c28
                subst c28
                have H1 : (some false) = some r := by rw [if_neg (show ¬ (false = true) by decide)] at H; exact H
                clear H
                have H := H1
                clear H1
                obtain rfl := Option.some.inj H
                have hnb46 := NB280_283.out
                have hnc46 := NB283_280.out
                have hcz47_0 : wc.cell? ⟨gb280, 0, none⟩ = some (.int .i64 a0_0) := (blk_cell BK280.out 0).trans rfl
                have hcz47_1 : wc.cell? ⟨gb280, 1, none⟩ = some (.int .i64 a0_1) := (blk_cell BK280.out 1).trans rfl
                have hcz47_2 : wc.cell? ⟨gb280, 2, none⟩ = some (.int .i64 a0_2) := (blk_cell BK280.out 2).trans rfl
                have hcz47_3 : wc.cell? ⟨gb280, 3, none⟩ = some (.int .i64 a0_3) := (blk_cell BK280.out 3).trans rfl
                have hcz47_4 : wc.cell? ⟨gb280, 4, none⟩ = some (.bool a0_4) := (blk_cell BK280.out 4).trans rfl
                have hcz47_5 : wc.cell? ⟨gb280, 5, none⟩ = some (.int .i64 a0_5) := (blk_cell BK280.out 5).trans rfl
                have hcz47_6 : wc.cell? ⟨gb280, 6, none⟩ = some (.int .i64 a0_6) := (blk_cell BK280.out 6).trans rfl
                have hcz47_7 : wc.cell? ⟨gb280, 7, none⟩ = some (.int .i64 a0_7) := (blk_cell BK280.out 7).trans rfl
                have hcz47_8 : wc.cell? ⟨gb280, 8, none⟩ = some (.int .i64 a0_8) := (blk_cell BK280.out 8).trans rfl
                have hcz47_9 : wc.cell? ⟨gb280, 9, none⟩ = some (.int .i64 a0_9) := (blk_cell BK280.out 9).trans rfl
                have hcz47_10 : wc.cell? ⟨gb280, 10, none⟩ = some (.int .i64 a0_10) := (blk_cell BK280.out 10).trans rfl
                have hcz47_11 : wc.cell? ⟨gb280, 11, none⟩ = some (.int .i64 a0_11) := (blk_cell BK280.out 11).trans rfl
                have hcz47_12 : wc.cell? ⟨gb280, 12, none⟩ = some (.int .i64 a0_12) := (blk_cell BK280.out 12).trans rfl
                have hcz47_13 : wc.cell? ⟨gb280, 13, none⟩ = some (.int .i64 a0_13) := (blk_cell BK280.out 13).trans rfl
                have hfz47_0 := blk_frozen BK280.out 0
                have hfz47_1 := blk_frozen BK280.out 1
                have hfz47_2 := blk_frozen BK280.out 2
                have hfz47_3 := blk_frozen BK280.out 3
                have hfz47_4 := blk_frozen BK280.out 4
                have hfz47_5 := blk_frozen BK280.out 5
                have hfz47_6 := blk_frozen BK280.out 6
                have hfz47_7 := blk_frozen BK280.out 7
                have hfz47_8 := blk_frozen BK280.out 8
                have hfz47_9 := blk_frozen BK280.out 9
                have hfz47_10 := blk_frozen BK280.out 10
                have hfz47_11 := blk_frozen BK280.out 11
                have hfz47_12 := blk_frozen BK280.out 12
                have hfz47_13 := blk_frozen BK280.out 13
                go_wp2_with (first | ((with_reducible refine gate_callee (f := 19) rfl ?_); refine goesL_ (some 57) rfl rfl Try.func19 (by kernel_rfl) rfl #[.agg #[.int .i64 a0_5, .int .i64 a0_6]] rfl (by (try simp only [List.map_toArray, List.map_cons, List.map_nil]); first | done | rfl | (simp only [List.length_drop, List.length_take]; rfl)) ?_; (with_reducible refine (impl_ShareOk.calls a0_5 a0_6 false _ A27.out).mono ?_); rintro e w48 ⟨rfl, hb⟩; refine ⟨_, rfl, ?_⟩; have n0_ := Aside0.mk (blk_below (g := gb280) (o := .cells #[.int .i64 a0_0, .int .i64 a0_1, .int .i64 a0_2, .int .i64 a0_3, .bool a0_4, .int .i64 a0_5, .int .i64 a0_6, .int .i64 a0_7, .int .i64 a0_8, .int .i64 a0_9, .int .i64 a0_10, .int .i64 a0_11, .int .i64 a0_12, .int .i64 a0_13] 48 (0, 0)) (by (with_reducible repeat (first | refine blk_drewN ?_ _ | refine blk_drew ?_ | refine blk_alloc ?_ _)); exact BK280.out) hb); have n1_ := Aside0.mk (blk_below (g := gb283) (o := .cells #[.int .i64 a0_0, .int .i64 a0_1, .int .i64 a0_2, .int .i64 a0_3, .bool a0_4, .int .i64 x284005_14, .int .i64 x284006_14, .int .i64 x284007_14, .int .i64 x284008_14, .int .i64 0, .int .i64 0, .int .i64 0, .int .i64 0, .int .i64 0] 48 (0, 0)) (by (with_reducible repeat (first | refine blk_drewN ?_ _ | refine blk_drew ?_ | refine blk_alloc ?_ _)); exact BK283.out) hb); have n2_ := Aside0.mk (below_step (by repeat (first | (with_reducible first | exact HB.out | apply below_alloc | apply pw_below_drewN | apply below_drew1 | refine below_set ?_ GE280.out | refine below_set ?_ GE283.out) | exact HB.out)) hb); clear BK280; clear BK283; clear HB; have BK280 := n0_; have BK283 := n1_; have HB := n2_; clear n0_ n1_ n2_; (try clear hb); (try clear hb2); (try clear hk); (try clear hi)))
                go_ret
                exact ⟨by first | rfl | (simp [errW_none, errW_some] <;> rfl) | (simp [*, errW_none, errW_some] <;> rfl), by repeat (first | (with_reducible first | exact HB.out | apply below_alloc | apply pw_below_drewN | apply below_drew1 | refine below_set ?_ GE280.out | refine below_set ?_ GE283.out) | exact HB.out)⟩
        · rw [if_neg c14] at H
          have c14b0 : (a0_1 == 1) = false := beq_eq_false_iff_ne.mpr c14
          have c14b1 : (a0_1 != 1) = true := bne_iff_ne.mpr c14
          by_cases c49 : a0_1 = 2
          · rw [if_pos c49] at H
            have c49b0 : (a0_1 == 2) = true := beq_iff_eq.mpr c49
            have c49b1 : (a0_1 != 2) = false := bne_eq_false_iff_eq.mpr c49
            clear c49
            have HC50 := Aside0.mk H
            clear H
            have hcz51_0 : wc.cell? ⟨gb280, 0, none⟩ = some (.int .i64 a0_0) := (blk_cell BK280.out 0).trans rfl
            have hcz51_1 : wc.cell? ⟨gb280, 1, none⟩ = some (.int .i64 a0_1) := (blk_cell BK280.out 1).trans rfl
            have hcz51_2 : wc.cell? ⟨gb280, 2, none⟩ = some (.int .i64 a0_2) := (blk_cell BK280.out 2).trans rfl
            have hcz51_3 : wc.cell? ⟨gb280, 3, none⟩ = some (.int .i64 a0_3) := (blk_cell BK280.out 3).trans rfl
            have hcz51_4 : wc.cell? ⟨gb280, 4, none⟩ = some (.bool a0_4) := (blk_cell BK280.out 4).trans rfl
            have hcz51_5 : wc.cell? ⟨gb280, 5, none⟩ = some (.int .i64 a0_5) := (blk_cell BK280.out 5).trans rfl
            have hcz51_6 : wc.cell? ⟨gb280, 6, none⟩ = some (.int .i64 a0_6) := (blk_cell BK280.out 6).trans rfl
            have hcz51_7 : wc.cell? ⟨gb280, 7, none⟩ = some (.int .i64 a0_7) := (blk_cell BK280.out 7).trans rfl
            have hcz51_8 : wc.cell? ⟨gb280, 8, none⟩ = some (.int .i64 a0_8) := (blk_cell BK280.out 8).trans rfl
            have hcz51_9 : wc.cell? ⟨gb280, 9, none⟩ = some (.int .i64 a0_9) := (blk_cell BK280.out 9).trans rfl
            have hcz51_10 : wc.cell? ⟨gb280, 10, none⟩ = some (.int .i64 a0_10) := (blk_cell BK280.out 10).trans rfl
            have hcz51_11 : wc.cell? ⟨gb280, 11, none⟩ = some (.int .i64 a0_11) := (blk_cell BK280.out 11).trans rfl
            have hcz51_12 : wc.cell? ⟨gb280, 12, none⟩ = some (.int .i64 a0_12) := (blk_cell BK280.out 12).trans rfl
            have hcz51_13 : wc.cell? ⟨gb280, 13, none⟩ = some (.int .i64 a0_13) := (blk_cell BK280.out 13).trans rfl
            have hfz51_0 := blk_frozen BK280.out 0
            have hfz51_1 := blk_frozen BK280.out 1
            have hfz51_2 := blk_frozen BK280.out 2
            have hfz51_3 := blk_frozen BK280.out 3
            have hfz51_4 := blk_frozen BK280.out 4
            have hfz51_5 := blk_frozen BK280.out 5
            have hfz51_6 := blk_frozen BK280.out 6
            have hfz51_7 := blk_frozen BK280.out 7
            have hfz51_8 := blk_frozen BK280.out 8
            have hfz51_9 := blk_frozen BK280.out 9
            have hfz51_10 := blk_frozen BK280.out 10
            have hfz51_11 := blk_frozen BK280.out 11
            have hfz51_12 := blk_frozen BK280.out 12
            have hfz51_13 := blk_frozen BK280.out 13
            go_upto_region 10 with (first | ((with_reducible refine gate_dst (N := 3) rfl ?_); (try (refine gate_guard (by rfl) ?_; dsimp only)); refine box_event ?hg (N := 3) ?hd (cs := #[.int .i64 0, .int .i64 0, .int .i64 0, .int .i64 0, .bool false, .int .i64 0, .int .i64 0, .int .i64 0, .int .i64 0, .int .i64 0, .int .i64 0, .int .i64 0, .int .i64 0, .int .i64 0]) (t := 48) ?hr ?_; (case hd => rfl); (case hg => rfl); (case hr => first | (go_simp; done) | (go_simp; rfl)); intro gb283 hg w52 hbox hb; have n0_ := Aside0.mk (blk_below (g := gb280) (o := .cells #[.int .i64 a0_0, .int .i64 a0_1, .int .i64 a0_2, .int .i64 a0_3, .bool a0_4, .int .i64 a0_5, .int .i64 a0_6, .int .i64 a0_7, .int .i64 a0_8, .int .i64 a0_9, .int .i64 a0_10, .int .i64 a0_11, .int .i64 a0_12, .int .i64 a0_13] 48 (0, 0)) (by (with_reducible repeat (first | refine blk_drewN ?_ _ | refine blk_drew ?_ | refine blk_alloc ?_ _)); exact BK280.out) hb); have n1_ := Aside0.mk (below_step (by repeat (first | (with_reducible first | exact HB.out | apply below_alloc | apply pw_below_drewN | apply below_drew1 | refine below_set ?_ GE280.out) | exact HB.out)) hb); have n2_ := Aside0.mk (hbox); have n3_ := Aside0.mk ((by rw [hg]; exact (below_size (by repeat (first | (with_reducible first | exact HB.out | apply below_alloc | apply pw_below_drewN | apply below_drew1 | refine below_set ?_ GE280.out) | exact HB.out))) : w.heap.size ≤ gb283)); have n4_ := Aside0.mk ((by rw [hg]; exact (below_size (by repeat (first | (with_reducible first | exact HB.out | apply below_alloc | apply pw_below_drewN | apply below_drew1 | refine below_set ?_ GE280.out) | exact HB.out))) : w.heap.size ≤ gb283)); have n5_ := Aside0.mk ((by rw [hg]; exact Nat.ne_of_lt (blk_lt (g := gb280) (o := .cells #[.int .i64 a0_0, .int .i64 a0_1, .int .i64 a0_2, .int .i64 a0_3, .bool a0_4, .int .i64 a0_5, .int .i64 a0_6, .int .i64 a0_7, .int .i64 a0_8, .int .i64 a0_9, .int .i64 a0_10, .int .i64 a0_11, .int .i64 a0_12, .int .i64 a0_13] 48 (0, 0)) (by (with_reducible repeat (first | refine blk_drewN ?_ _ | refine blk_drew ?_ | refine blk_alloc ?_ _)); exact BK280.out)) : gb280 ≠ gb283)); have n6_ := Aside0.mk ((by rw [hg]; exact Nat.ne_of_gt (blk_lt (g := gb280) (o := .cells #[.int .i64 a0_0, .int .i64 a0_1, .int .i64 a0_2, .int .i64 a0_3, .bool a0_4, .int .i64 a0_5, .int .i64 a0_6, .int .i64 a0_7, .int .i64 a0_8, .int .i64 a0_9, .int .i64 a0_10, .int .i64 a0_11, .int .i64 a0_12, .int .i64 a0_13] 48 (0, 0)) (by (with_reducible repeat (first | refine blk_drewN ?_ _ | refine blk_drew ?_ | refine blk_alloc ?_ _)); exact BK280.out)) : gb283 ≠ gb280)); clear BK280; clear HB; have BK280 := n0_; have HB := n1_; have BK283 := n2_; have GW283 := n3_; have GE283 := n4_; have NB280_283 := n5_; have NB283_280 := n6_; clear n0_ n1_ n2_ n3_ n4_ n5_ n6_; clear hb hbox hg; have hnb53 := NB283_280.out; have hnc53 := NB280_283.out; have hcz54_0 : w52.cell? ⟨gb283, 0, none⟩ = some (.int .i64 0) := (blk_cell BK283.out 0).trans rfl; have hcz54_1 : w52.cell? ⟨gb283, 1, none⟩ = some (.int .i64 0) := (blk_cell BK283.out 1).trans rfl; have hcz54_2 : w52.cell? ⟨gb283, 2, none⟩ = some (.int .i64 0) := (blk_cell BK283.out 2).trans rfl; have hcz54_3 : w52.cell? ⟨gb283, 3, none⟩ = some (.int .i64 0) := (blk_cell BK283.out 3).trans rfl; have hcz54_4 : w52.cell? ⟨gb283, 4, none⟩ = some (.bool false) := (blk_cell BK283.out 4).trans rfl; have hcz54_5 : w52.cell? ⟨gb283, 5, none⟩ = some (.int .i64 0) := (blk_cell BK283.out 5).trans rfl; have hcz54_6 : w52.cell? ⟨gb283, 6, none⟩ = some (.int .i64 0) := (blk_cell BK283.out 6).trans rfl; have hcz54_7 : w52.cell? ⟨gb283, 7, none⟩ = some (.int .i64 0) := (blk_cell BK283.out 7).trans rfl; have hcz54_8 : w52.cell? ⟨gb283, 8, none⟩ = some (.int .i64 0) := (blk_cell BK283.out 8).trans rfl; have hcz54_9 : w52.cell? ⟨gb283, 9, none⟩ = some (.int .i64 0) := (blk_cell BK283.out 9).trans rfl; have hcz54_10 : w52.cell? ⟨gb283, 10, none⟩ = some (.int .i64 0) := (blk_cell BK283.out 10).trans rfl; have hcz54_11 : w52.cell? ⟨gb283, 11, none⟩ = some (.int .i64 0) := (blk_cell BK283.out 11).trans rfl; have hcz54_12 : w52.cell? ⟨gb283, 12, none⟩ = some (.int .i64 0) := (blk_cell BK283.out 12).trans rfl; have hcz54_13 : w52.cell? ⟨gb283, 13, none⟩ = some (.int .i64 0) := (blk_cell BK283.out 13).trans rfl; have hfz54_0 := blk_frozen BK283.out 0; have hfz54_1 := blk_frozen BK283.out 1; have hfz54_2 := blk_frozen BK283.out 2; have hfz54_3 := blk_frozen BK283.out 3; have hfz54_4 := blk_frozen BK283.out 4; have hfz54_5 := blk_frozen BK283.out 5; have hfz54_6 := blk_frozen BK283.out 6; have hfz54_7 := blk_frozen BK283.out 7; have hfz54_8 := blk_frozen BK283.out 8; have hfz54_9 := blk_frozen BK283.out 9; have hfz54_10 := blk_frozen BK283.out 10; have hfz54_11 := blk_frozen BK283.out 11; have hfz54_12 := blk_frozen BK283.out 12; have hfz54_13 := blk_frozen BK283.out 13; have hcz55_0 : w52.cell? ⟨gb280, 0, none⟩ = some (.int .i64 a0_0) := (blk_cell BK280.out 0).trans rfl; have hcz55_1 : w52.cell? ⟨gb280, 1, none⟩ = some (.int .i64 a0_1) := (blk_cell BK280.out 1).trans rfl; have hcz55_2 : w52.cell? ⟨gb280, 2, none⟩ = some (.int .i64 a0_2) := (blk_cell BK280.out 2).trans rfl; have hcz55_3 : w52.cell? ⟨gb280, 3, none⟩ = some (.int .i64 a0_3) := (blk_cell BK280.out 3).trans rfl; have hcz55_4 : w52.cell? ⟨gb280, 4, none⟩ = some (.bool a0_4) := (blk_cell BK280.out 4).trans rfl; have hcz55_5 : w52.cell? ⟨gb280, 5, none⟩ = some (.int .i64 a0_5) := (blk_cell BK280.out 5).trans rfl; have hcz55_6 : w52.cell? ⟨gb280, 6, none⟩ = some (.int .i64 a0_6) := (blk_cell BK280.out 6).trans rfl; have hcz55_7 : w52.cell? ⟨gb280, 7, none⟩ = some (.int .i64 a0_7) := (blk_cell BK280.out 7).trans rfl; have hcz55_8 : w52.cell? ⟨gb280, 8, none⟩ = some (.int .i64 a0_8) := (blk_cell BK280.out 8).trans rfl; have hcz55_9 : w52.cell? ⟨gb280, 9, none⟩ = some (.int .i64 a0_9) := (blk_cell BK280.out 9).trans rfl; have hcz55_10 : w52.cell? ⟨gb280, 10, none⟩ = some (.int .i64 a0_10) := (blk_cell BK280.out 10).trans rfl; have hcz55_11 : w52.cell? ⟨gb280, 11, none⟩ = some (.int .i64 a0_11) := (blk_cell BK280.out 11).trans rfl; have hcz55_12 : w52.cell? ⟨gb280, 12, none⟩ = some (.int .i64 a0_12) := (blk_cell BK280.out 12).trans rfl; have hcz55_13 : w52.cell? ⟨gb280, 13, none⟩ = some (.int .i64 a0_13) := (blk_cell BK280.out 13).trans rfl; have hfz55_0 := blk_frozen BK280.out 0; have hfz55_1 := blk_frozen BK280.out 1; have hfz55_2 := blk_frozen BK280.out 2; have hfz55_3 := blk_frozen BK280.out 3; have hfz55_4 := blk_frozen BK280.out 4; have hfz55_5 := blk_frozen BK280.out 5; have hfz55_6 := blk_frozen BK280.out 6; have hfz55_7 := blk_frozen BK280.out 7; have hfz55_8 := blk_frozen BK280.out 8; have hfz55_9 := blk_frozen BK280.out 9; have hfz55_10 := blk_frozen BK280.out 10; have hfz55_11 := blk_frozen BK280.out 11; have hfz55_12 := blk_frozen BK280.out 12; have hfz55_13 := blk_frozen BK280.out 13))
            (try simp only [Act.put, List.setIfInBounds_toArray, List.set_cons_zero, List.set_cons_succ])
            go_cut [] (fun wc => ∃ (kq : Nat) (x284007_49 : Int) (x284009_49 : Int) (x284010_49 : Int) (x284011_49 : Int), Aside0 (impl_TaskOk0.j2 kq a0_0 a0_1 a0_2 a0_3 a0_4 a0_5 a0_6 a0_7 a0_8 a0_9 a0_10 a0_11 a0_12 a0_13 a0_0 a0_1 a0_2 a0_3 a0_4 0 0 x284007_49 0 x284009_49 x284010_49 x284011_49 0 0 = some r) ∧ Aside0 (kq ≤ kj1) ∧ Aside0 (wc.heap[gb280]? = some (.cells #[.int .i64 a0_0, .int .i64 a0_1, .int .i64 a0_2, .int .i64 a0_3, .bool a0_4, .int .i64 a0_5, .int .i64 a0_6, .int .i64 a0_7, .int .i64 a0_8, .int .i64 a0_9, .int .i64 a0_10, .int .i64 a0_11, .int .i64 a0_12, .int .i64 a0_13] 48 (0, 0))) ∧ Aside0 (wc.heap[gb283]? = some (.cells #[.int .i64 a0_0, .int .i64 a0_1, .int .i64 a0_2, .int .i64 a0_3, .bool a0_4, .int .i64 0, .int .i64 0, .int .i64 x284007_49, .int .i64 0, .int .i64 x284009_49, .int .i64 x284010_49, .int .i64 x284011_49, .int .i64 0, .int .i64 0] 48 (0, 0))) ∧ Aside0 (Below w.heap.size w wc))
            case first =>
              have H := HC50.out
              clear HC50
              have H' := Aside0.mk H
              clear H
              try go_wp2
              have n0_ : Aside0 (((((((((((((((w52.setCell ⟨gb283, 0, none⟩ (.int .i64 a0_0)).setCell ⟨gb283, 1, none⟩ (.int .i64 a0_1)).setCell ⟨gb283, 2, none⟩ (.int .i64 a0_2)).setCell ⟨gb283, 3, none⟩ (.int .i64 a0_3)).setCell ⟨gb283, 4, none⟩ (.bool a0_4)).setCell ⟨gb283, 5, none⟩ (.int .i64 0)).setCell ⟨gb283, 6, none⟩ (.int .i64 0)).setCell ⟨gb283, 7, none⟩ (.int .i64 0)).setCell ⟨gb283, 8, none⟩ (.int .i64 0)).setCell ⟨gb283, 9, none⟩ (.int .i64 0)).setCell ⟨gb283, 10, none⟩ (.int .i64 0)).setCell ⟨gb283, 11, none⟩ (.int .i64 0)).setCell ⟨gb283, 12, none⟩ (.int .i64 0)).setCell ⟨gb283, 13, none⟩ (.int .i64 0)).heap[gb280]? = some (.cells #[.int .i64 a0_0, .int .i64 a0_1, .int .i64 a0_2, .int .i64 a0_3, .bool a0_4, .int .i64 a0_5, .int .i64 a0_6, .int .i64 a0_7, .int .i64 a0_8, .int .i64 a0_9, .int .i64 a0_10, .int .i64 a0_11, .int .i64 a0_12, .int .i64 a0_13] 48 (0, 0))) := ⟨by (with_reducible repeat (first | refine blk_drewN ?_ _ | refine blk_drew ?_ | refine blk_alloc ?_ _)); refine blk_far ?_ NB280_283.out _; (with_reducible repeat (first | refine blk_drewN ?_ _ | refine blk_drew ?_ | refine blk_alloc ?_ _)); refine blk_far ?_ NB280_283.out _; (with_reducible repeat (first | refine blk_drewN ?_ _ | refine blk_drew ?_ | refine blk_alloc ?_ _)); refine blk_far ?_ NB280_283.out _; (with_reducible repeat (first | refine blk_drewN ?_ _ | refine blk_drew ?_ | refine blk_alloc ?_ _)); refine blk_far ?_ NB280_283.out _; (with_reducible repeat (first | refine blk_drewN ?_ _ | refine blk_drew ?_ | refine blk_alloc ?_ _)); refine blk_far ?_ NB280_283.out _; (with_reducible repeat (first | refine blk_drewN ?_ _ | refine blk_drew ?_ | refine blk_alloc ?_ _)); refine blk_far ?_ NB280_283.out _; (with_reducible repeat (first | refine blk_drewN ?_ _ | refine blk_drew ?_ | refine blk_alloc ?_ _)); refine blk_far ?_ NB280_283.out _; (with_reducible repeat (first | refine blk_drewN ?_ _ | refine blk_drew ?_ | refine blk_alloc ?_ _)); refine blk_far ?_ NB280_283.out _; (with_reducible repeat (first | refine blk_drewN ?_ _ | refine blk_drew ?_ | refine blk_alloc ?_ _)); refine blk_far ?_ NB280_283.out _; (with_reducible repeat (first | refine blk_drewN ?_ _ | refine blk_drew ?_ | refine blk_alloc ?_ _)); refine blk_far ?_ NB280_283.out _; (with_reducible repeat (first | refine blk_drewN ?_ _ | refine blk_drew ?_ | refine blk_alloc ?_ _)); refine blk_far ?_ NB280_283.out _; (with_reducible repeat (first | refine blk_drewN ?_ _ | refine blk_drew ?_ | refine blk_alloc ?_ _)); refine blk_far ?_ NB280_283.out _; (with_reducible repeat (first | refine blk_drewN ?_ _ | refine blk_drew ?_ | refine blk_alloc ?_ _)); refine blk_far ?_ NB280_283.out _; (with_reducible repeat (first | refine blk_drewN ?_ _ | refine blk_drew ?_ | refine blk_alloc ?_ _)); refine blk_far ?_ NB280_283.out _; (with_reducible repeat (first | refine blk_drewN ?_ _ | refine blk_drew ?_ | refine blk_alloc ?_ _)); exact BK280.out⟩
              have n1_ : Aside0 (((((((((((((((w52.setCell ⟨gb283, 0, none⟩ (.int .i64 a0_0)).setCell ⟨gb283, 1, none⟩ (.int .i64 a0_1)).setCell ⟨gb283, 2, none⟩ (.int .i64 a0_2)).setCell ⟨gb283, 3, none⟩ (.int .i64 a0_3)).setCell ⟨gb283, 4, none⟩ (.bool a0_4)).setCell ⟨gb283, 5, none⟩ (.int .i64 0)).setCell ⟨gb283, 6, none⟩ (.int .i64 0)).setCell ⟨gb283, 7, none⟩ (.int .i64 0)).setCell ⟨gb283, 8, none⟩ (.int .i64 0)).setCell ⟨gb283, 9, none⟩ (.int .i64 0)).setCell ⟨gb283, 10, none⟩ (.int .i64 0)).setCell ⟨gb283, 11, none⟩ (.int .i64 0)).setCell ⟨gb283, 12, none⟩ (.int .i64 0)).setCell ⟨gb283, 13, none⟩ (.int .i64 0)).heap[gb283]? = some (.cells #[.int .i64 a0_0, .int .i64 a0_1, .int .i64 a0_2, .int .i64 a0_3, .bool a0_4, .int .i64 0, .int .i64 0, .int .i64 0, .int .i64 0, .int .i64 0, .int .i64 0, .int .i64 0, .int .i64 0, .int .i64 0] 48 (0, 0))) := ⟨by (with_reducible repeat (first | refine blk_drewN ?_ _ | refine blk_drew ?_ | refine blk_alloc ?_ _)); refine blk_put (cs := #[.int .i64 a0_0, .int .i64 a0_1, .int .i64 a0_2, .int .i64 a0_3, .bool a0_4, .int .i64 0, .int .i64 0, .int .i64 0, .int .i64 0, .int .i64 0, .int .i64 0, .int .i64 0, .int .i64 0, .int .i64 0]) ?_ 13 _ rfl; (with_reducible repeat (first | refine blk_drewN ?_ _ | refine blk_drew ?_ | refine blk_alloc ?_ _)); refine blk_put (cs := #[.int .i64 a0_0, .int .i64 a0_1, .int .i64 a0_2, .int .i64 a0_3, .bool a0_4, .int .i64 0, .int .i64 0, .int .i64 0, .int .i64 0, .int .i64 0, .int .i64 0, .int .i64 0, .int .i64 0, .int .i64 0]) ?_ 12 _ rfl; (with_reducible repeat (first | refine blk_drewN ?_ _ | refine blk_drew ?_ | refine blk_alloc ?_ _)); refine blk_put (cs := #[.int .i64 a0_0, .int .i64 a0_1, .int .i64 a0_2, .int .i64 a0_3, .bool a0_4, .int .i64 0, .int .i64 0, .int .i64 0, .int .i64 0, .int .i64 0, .int .i64 0, .int .i64 0, .int .i64 0, .int .i64 0]) ?_ 11 _ rfl; (with_reducible repeat (first | refine blk_drewN ?_ _ | refine blk_drew ?_ | refine blk_alloc ?_ _)); refine blk_put (cs := #[.int .i64 a0_0, .int .i64 a0_1, .int .i64 a0_2, .int .i64 a0_3, .bool a0_4, .int .i64 0, .int .i64 0, .int .i64 0, .int .i64 0, .int .i64 0, .int .i64 0, .int .i64 0, .int .i64 0, .int .i64 0]) ?_ 10 _ rfl; (with_reducible repeat (first | refine blk_drewN ?_ _ | refine blk_drew ?_ | refine blk_alloc ?_ _)); refine blk_put (cs := #[.int .i64 a0_0, .int .i64 a0_1, .int .i64 a0_2, .int .i64 a0_3, .bool a0_4, .int .i64 0, .int .i64 0, .int .i64 0, .int .i64 0, .int .i64 0, .int .i64 0, .int .i64 0, .int .i64 0, .int .i64 0]) ?_ 9 _ rfl; (with_reducible repeat (first | refine blk_drewN ?_ _ | refine blk_drew ?_ | refine blk_alloc ?_ _)); refine blk_put (cs := #[.int .i64 a0_0, .int .i64 a0_1, .int .i64 a0_2, .int .i64 a0_3, .bool a0_4, .int .i64 0, .int .i64 0, .int .i64 0, .int .i64 0, .int .i64 0, .int .i64 0, .int .i64 0, .int .i64 0, .int .i64 0]) ?_ 8 _ rfl; (with_reducible repeat (first | refine blk_drewN ?_ _ | refine blk_drew ?_ | refine blk_alloc ?_ _)); refine blk_put (cs := #[.int .i64 a0_0, .int .i64 a0_1, .int .i64 a0_2, .int .i64 a0_3, .bool a0_4, .int .i64 0, .int .i64 0, .int .i64 0, .int .i64 0, .int .i64 0, .int .i64 0, .int .i64 0, .int .i64 0, .int .i64 0]) ?_ 7 _ rfl; (with_reducible repeat (first | refine blk_drewN ?_ _ | refine blk_drew ?_ | refine blk_alloc ?_ _)); refine blk_put (cs := #[.int .i64 a0_0, .int .i64 a0_1, .int .i64 a0_2, .int .i64 a0_3, .bool a0_4, .int .i64 0, .int .i64 0, .int .i64 0, .int .i64 0, .int .i64 0, .int .i64 0, .int .i64 0, .int .i64 0, .int .i64 0]) ?_ 6 _ rfl; (with_reducible repeat (first | refine blk_drewN ?_ _ | refine blk_drew ?_ | refine blk_alloc ?_ _)); refine blk_put (cs := #[.int .i64 a0_0, .int .i64 a0_1, .int .i64 a0_2, .int .i64 a0_3, .bool a0_4, .int .i64 0, .int .i64 0, .int .i64 0, .int .i64 0, .int .i64 0, .int .i64 0, .int .i64 0, .int .i64 0, .int .i64 0]) ?_ 5 _ rfl; (with_reducible repeat (first | refine blk_drewN ?_ _ | refine blk_drew ?_ | refine blk_alloc ?_ _)); refine blk_put (cs := #[.int .i64 a0_0, .int .i64 a0_1, .int .i64 a0_2, .int .i64 a0_3, .bool false, .int .i64 0, .int .i64 0, .int .i64 0, .int .i64 0, .int .i64 0, .int .i64 0, .int .i64 0, .int .i64 0, .int .i64 0]) ?_ 4 _ rfl; (with_reducible repeat (first | refine blk_drewN ?_ _ | refine blk_drew ?_ | refine blk_alloc ?_ _)); refine blk_put (cs := #[.int .i64 a0_0, .int .i64 a0_1, .int .i64 a0_2, .int .i64 0, .bool false, .int .i64 0, .int .i64 0, .int .i64 0, .int .i64 0, .int .i64 0, .int .i64 0, .int .i64 0, .int .i64 0, .int .i64 0]) ?_ 3 _ rfl; (with_reducible repeat (first | refine blk_drewN ?_ _ | refine blk_drew ?_ | refine blk_alloc ?_ _)); refine blk_put (cs := #[.int .i64 a0_0, .int .i64 a0_1, .int .i64 0, .int .i64 0, .bool false, .int .i64 0, .int .i64 0, .int .i64 0, .int .i64 0, .int .i64 0, .int .i64 0, .int .i64 0, .int .i64 0, .int .i64 0]) ?_ 2 _ rfl; (with_reducible repeat (first | refine blk_drewN ?_ _ | refine blk_drew ?_ | refine blk_alloc ?_ _)); refine blk_put (cs := #[.int .i64 a0_0, .int .i64 0, .int .i64 0, .int .i64 0, .bool false, .int .i64 0, .int .i64 0, .int .i64 0, .int .i64 0, .int .i64 0, .int .i64 0, .int .i64 0, .int .i64 0, .int .i64 0]) ?_ 1 _ rfl; (with_reducible repeat (first | refine blk_drewN ?_ _ | refine blk_drew ?_ | refine blk_alloc ?_ _)); refine blk_put (cs := #[.int .i64 0, .int .i64 0, .int .i64 0, .int .i64 0, .bool false, .int .i64 0, .int .i64 0, .int .i64 0, .int .i64 0, .int .i64 0, .int .i64 0, .int .i64 0, .int .i64 0, .int .i64 0]) ?_ 0 _ rfl; (with_reducible repeat (first | refine blk_drewN ?_ _ | refine blk_drew ?_ | refine blk_alloc ?_ _)); exact BK283.out⟩
              have n2_ : Aside0 (Below w.heap.size w ((((((((((((((w52.setCell ⟨gb283, 0, none⟩ (.int .i64 a0_0)).setCell ⟨gb283, 1, none⟩ (.int .i64 a0_1)).setCell ⟨gb283, 2, none⟩ (.int .i64 a0_2)).setCell ⟨gb283, 3, none⟩ (.int .i64 a0_3)).setCell ⟨gb283, 4, none⟩ (.bool a0_4)).setCell ⟨gb283, 5, none⟩ (.int .i64 0)).setCell ⟨gb283, 6, none⟩ (.int .i64 0)).setCell ⟨gb283, 7, none⟩ (.int .i64 0)).setCell ⟨gb283, 8, none⟩ (.int .i64 0)).setCell ⟨gb283, 9, none⟩ (.int .i64 0)).setCell ⟨gb283, 10, none⟩ (.int .i64 0)).setCell ⟨gb283, 11, none⟩ (.int .i64 0)).setCell ⟨gb283, 12, none⟩ (.int .i64 0)).setCell ⟨gb283, 13, none⟩ (.int .i64 0))) := ⟨by repeat (first | (with_reducible first | exact HB.out | apply below_alloc | apply pw_below_drewN | apply below_drew1 | refine below_set ?_ GE280.out | refine below_set ?_ GE283.out) | exact HB.out)⟩
              (try clear BK280)
              (try clear BK283)
              (try clear HB)
              generalize ((((((((((((((w52.setCell ⟨gb283, 0, none⟩ (.int .i64 a0_0)).setCell ⟨gb283, 1, none⟩ (.int .i64 a0_1)).setCell ⟨gb283, 2, none⟩ (.int .i64 a0_2)).setCell ⟨gb283, 3, none⟩ (.int .i64 a0_3)).setCell ⟨gb283, 4, none⟩ (.bool a0_4)).setCell ⟨gb283, 5, none⟩ (.int .i64 0)).setCell ⟨gb283, 6, none⟩ (.int .i64 0)).setCell ⟨gb283, 7, none⟩ (.int .i64 0)).setCell ⟨gb283, 8, none⟩ (.int .i64 0)).setCell ⟨gb283, 9, none⟩ (.int .i64 0)).setCell ⟨gb283, 10, none⟩ (.int .i64 0)).setCell ⟨gb283, 11, none⟩ (.int .i64 0)).setCell ⟨gb283, 12, none⟩ (.int .i64 0)).setCell ⟨gb283, 13, none⟩ (.int .i64 0)) = w56 at n0_ n1_ n2_ ⊢
              have BK280 := n0_
              have BK283 := n1_
              have HB := n2_
              clear n0_ n1_ n2_
              have n0_ := Aside0.mk (blk_drew BK280.out)
              have n1_ := Aside0.mk (blk_drew BK283.out)
              have n2_ := Aside0.mk (below_drew1 HB.out)
              clear BK280
              clear BK283
              clear HB
              have BK280 := n0_
              have BK283 := n1_
              have HB := n2_
              clear n0_ n1_ n2_
              refine start_ (n := 16) (S := fun w' => w'.cell? ⟨gb280, 0, none⟩ = some (.int .i64 a0_0) ∧ w'.cell? ⟨gb280, 1, none⟩ = some (.int .i64 a0_1) ∧ w'.cell? ⟨gb280, 2, none⟩ = some (.int .i64 a0_2) ∧ w'.cell? ⟨gb280, 3, none⟩ = some (.int .i64 a0_3) ∧ w'.cell? ⟨gb280, 4, none⟩ = some (.bool a0_4) ∧ w'.cell? ⟨gb280, 5, none⟩ = some (.int .i64 a0_5) ∧ w'.cell? ⟨gb280, 6, none⟩ = some (.int .i64 a0_6) ∧ w'.cell? ⟨gb280, 7, none⟩ = some (.int .i64 a0_7) ∧ w'.cell? ⟨gb280, 8, none⟩ = some (.int .i64 a0_8) ∧ w'.cell? ⟨gb280, 9, none⟩ = some (.int .i64 a0_9) ∧ w'.cell? ⟨gb280, 10, none⟩ = some (.int .i64 a0_10) ∧ w'.cell? ⟨gb280, 11, none⟩ = some (.int .i64 a0_11) ∧ w'.cell? ⟨gb280, 12, none⟩ = some (.int .i64 a0_12) ∧ w'.cell? ⟨gb280, 13, none⟩ = some (.int .i64 a0_13)) (ds := []) #[false, false, false, false, false, false, false, false, false, false, false, false, false, false, false, false] (by kernel_rfl) rfl rfl ⟨(blk_cell BK280.out 0).trans rfl, (blk_cell BK280.out 1).trans rfl, (blk_cell BK280.out 2).trans rfl, (blk_cell BK280.out 3).trans rfl, (blk_cell BK280.out 4).trans rfl, (blk_cell BK280.out 5).trans rfl, (blk_cell BK280.out 6).trans rfl, (blk_cell BK280.out 7).trans rfl, (blk_cell BK280.out 8).trans rfl, (blk_cell BK280.out 9).trans rfl, (blk_cell BK280.out 10).trans rfl, (blk_cell BK280.out 11).trans rfl, (blk_cell BK280.out 12).trans rfl, (blk_cell BK280.out 13).trans rfl⟩ (fun hHeld => ?_); refine with_tabW impl_TaskOk0.tab10 impl_TaskOk0.bits10 (fun HT_ HW_ => ?_)
              generalize w56.drew = w57 at BK280 BK283 HB hHeld ⊢
              refine pure_ (i := 0) (N := some 72) (v := ?_) (a' := ?_) #[true, false, false, false, false, false, false, false, false, false, false, false, false, false, false, false] rfl rfl (any_of HT_.out (by kernel_rfl)) (fun _ _ _ h => h) (Or.inl ⟨by rfl, ?_⟩) ?_ ?_
              rotate_left
              · intro w'
                go_simp
                with_reducible rfl
              rotate_left
              · simp only [Act.put, List.setIfInBounds_toArray, List.set_cons_zero, List.set_cons_succ, i64_w, i32_w]
                rfl
              refine pure_ (i := 2) (N := some 74) (v := ?_) (a' := ?_) #[true, false, true, false, false, false, false, false, false, false, false, false, false, false, false, false] rfl rfl (any_of HT_.out (by kernel_rfl)) (fun _ _ _ h => h) (Or.inl ⟨by rfl, ?_⟩) ?_ ?_
              rotate_left
              · intro w'
                go_simp
                with_reducible rfl
              rotate_left
              · simp only [Act.put, List.setIfInBounds_toArray, List.set_cons_zero, List.set_cons_succ, i64_w, i32_w]
                rfl
              refine pure_ (i := 4) (N := some 76) (v := ?_) (a' := ?_) #[true, false, true, false, true, false, false, false, false, false, false, false, false, false, false, false] rfl rfl (any_of HT_.out (by kernel_rfl)) (fun _ _ _ h => h) (Or.inl ⟨by rfl, ?_⟩) ?_ ?_
              rotate_left
              · intro w'
                go_simp
                with_reducible rfl
              rotate_left
              · simp only [Act.put, List.setIfInBounds_toArray, List.set_cons_zero, List.set_cons_succ, i64_w, i32_w]
                rfl
              refine pure_ (i := 6) (N := some 78) (v := ?_) (a' := ?_) #[true, false, true, false, true, false, true, false, false, false, false, false, false, false, false, false] rfl rfl (any_of HT_.out (by kernel_rfl)) (fun _ _ _ h => h) (Or.inl ⟨by rfl, ?_⟩) ?_ ?_
              rotate_left
              · intro w'
                go_simp
                with_reducible rfl
              rotate_left
              · simp only [Act.put, List.setIfInBounds_toArray, List.set_cons_zero, List.set_cons_succ, i64_w, i32_w]
                rfl
              refine take_ (i := 1) (N := some 73) (v := ?_) (a' := ?_) #[true, true, true, false, true, false, true, false, false, false, false, false, false, false, false, false] rfl rfl (take_ofW HT_.out HW_.out (by kernel_rfl)) (fun _ _ _ h => h) (Or.inl ⟨by rfl, ?_⟩) hHeld ?_ ?_
              rotate_left
              · rintro w' ⟨s0, s1, s2, s3, s4, s5, s6, s7, s8, s9, s10, s11, s12, s13⟩
                go_simp
                with_reducible rfl
              rotate_left
              · simp only [Act.put, List.setIfInBounds_toArray, List.set_cons_zero, List.set_cons_succ, i64_w, i32_w]
                rfl
              refine pure_ (i := 8) (N := some 80) (v := ?_) (a' := ?_) #[true, true, true, false, true, false, true, false, true, false, false, false, false, false, false, false] rfl rfl (any_of HT_.out (by kernel_rfl)) (fun _ _ _ h => h) (Or.inl ⟨by rfl, ?_⟩) ?_ ?_
              rotate_left
              · intro w'
                go_simp
                with_reducible rfl
              rotate_left
              · simp only [Act.put, List.setIfInBounds_toArray, List.set_cons_zero, List.set_cons_succ, i64_w, i32_w]
                rfl
              refine take_ (i := 3) (N := some 75) (v := ?_) (a' := ?_) #[true, true, true, true, true, false, true, false, true, false, false, false, false, false, false, false] rfl rfl (take_ofW HT_.out HW_.out (by kernel_rfl)) (fun _ _ _ h => h) (Or.inl ⟨by rfl, ?_⟩) hHeld ?_ ?_
              rotate_left
              · rintro w' ⟨s0, s1, s2, s3, s4, s5, s6, s7, s8, s9, s10, s11, s12, s13⟩
                go_simp
                with_reducible rfl
              rotate_left
              · simp only [Act.put, List.setIfInBounds_toArray, List.set_cons_zero, List.set_cons_succ, i64_w, i32_w]
                rfl
              refine take_ (i := 5) (N := some 77) (v := ?_) (a' := ?_) #[true, true, true, true, true, true, true, false, true, false, false, false, false, false, false, false] rfl rfl (take_ofW HT_.out HW_.out (by kernel_rfl)) (fun _ _ _ h => h) (Or.inl ⟨by rfl, ?_⟩) hHeld ?_ ?_
              rotate_left
              · rintro w' ⟨s0, s1, s2, s3, s4, s5, s6, s7, s8, s9, s10, s11, s12, s13⟩
                go_simp
                with_reducible rfl
              rotate_left
              · simp only [Act.put, List.setIfInBounds_toArray, List.set_cons_zero, List.set_cons_succ, i64_w, i32_w]
                rfl
              refine take_ (i := 7) (N := some 79) (v := ?_) (a' := ?_) #[true, true, true, true, true, true, true, true, true, false, false, false, false, false, false, false] rfl rfl (take_ofW HT_.out HW_.out (by kernel_rfl)) (fun _ _ _ h => h) (Or.inl ⟨by rfl, ?_⟩) hHeld ?_ ?_
              rotate_left
              · rintro w' ⟨s0, s1, s2, s3, s4, s5, s6, s7, s8, s9, s10, s11, s12, s13⟩
                go_simp
                with_reducible rfl
              rotate_left
              · simp only [Act.put, List.setIfInBounds_toArray, List.set_cons_zero, List.set_cons_succ, i64_w, i32_w]
                rfl
              refine one_ (i := 9) (N := none) #[true, true, true, true, true, true, true, true, true, true, false, false, false, false, false, false] rfl rfl (one_of HT_.out (by kernel_rfl)) (by decide) (fun K hK => ?_)
              have hs58 : w57.cell? ⟨gb283, 9, none⟩ = some (.int .i64 0) := (blk_cell BK283.out 9).trans rfl
              have hfs58 := blk_frozen BK283.out 9
              have hns58_0 := NB280_283.out
              have hms58_0 := NB283_280.out
              refine skip_ (w1 := ?_) (by rfl) rfl ?_ ?_
              rotate_left
              · go_simp
                rfl
              refine hK.out _ _ ⟨((cell_far (p := ⟨gb283, _, none⟩) NB280_283.out _).trans (hHeld.1)), ((cell_far (p := ⟨gb283, _, none⟩) NB280_283.out _).trans (hHeld.2.1)), ((cell_far (p := ⟨gb283, _, none⟩) NB280_283.out _).trans (hHeld.2.2.1)), ((cell_far (p := ⟨gb283, _, none⟩) NB280_283.out _).trans (hHeld.2.2.2.1)), ((cell_far (p := ⟨gb283, _, none⟩) NB280_283.out _).trans (hHeld.2.2.2.2.1)), ((cell_far (p := ⟨gb283, _, none⟩) NB280_283.out _).trans (hHeld.2.2.2.2.2.1)), ((cell_far (p := ⟨gb283, _, none⟩) NB280_283.out _).trans (hHeld.2.2.2.2.2.2.1)), ((cell_far (p := ⟨gb283, _, none⟩) NB280_283.out _).trans (hHeld.2.2.2.2.2.2.2.1)), ((cell_far (p := ⟨gb283, _, none⟩) NB280_283.out _).trans (hHeld.2.2.2.2.2.2.2.2.1)), ((cell_far (p := ⟨gb283, _, none⟩) NB280_283.out _).trans (hHeld.2.2.2.2.2.2.2.2.2.1)), ((cell_far (p := ⟨gb283, _, none⟩) NB280_283.out _).trans (hHeld.2.2.2.2.2.2.2.2.2.2.1)), ((cell_far (p := ⟨gb283, _, none⟩) NB280_283.out _).trans (hHeld.2.2.2.2.2.2.2.2.2.2.2.1)), ((cell_far (p := ⟨gb283, _, none⟩) NB280_283.out _).trans (hHeld.2.2.2.2.2.2.2.2.2.2.2.2.1)), ((cell_far (p := ⟨gb283, _, none⟩) NB280_283.out _).trans (hHeld.2.2.2.2.2.2.2.2.2.2.2.2.2))⟩ (fun hHeld => ?_)
              clear hK K
              refine pure_ (i := 10) (N := some 81) (v := ?_) (a' := ?_) #[true, true, true, true, true, true, true, true, true, true, true, false, false, false, false, false] rfl rfl (any_of HT_.out (by kernel_rfl)) (fun _ _ _ h => h) (Or.inl ⟨by rfl, ?_⟩) ?_ ?_
              rotate_left
              · intro w'
                go_simp
                with_reducible rfl
              rotate_left
              · simp only [Act.put, List.setIfInBounds_toArray, List.set_cons_zero, List.set_cons_succ, i64_w, i32_w]
                rfl
              refine one_ (i := 11) (N := none) #[true, true, true, true, true, true, true, true, true, true, true, true, false, false, false, false] rfl rfl (one_of HT_.out (by kernel_rfl)) (by decide) (fun K hK => ?_)
              have hs59 : w57.cell? ⟨gb283, 10, none⟩ = some (.int .i64 0) := (blk_cell BK283.out 10).trans rfl
              have hfs59 := blk_frozen BK283.out 10
              have hns59_0 := NB280_283.out
              have hms59_0 := NB283_280.out
              refine skip_ (w1 := ?_) (by rfl) rfl ?_ ?_
              rotate_left
              · go_simp
                rfl
              refine hK.out _ _ ⟨((cell_far (p := ⟨gb283, _, none⟩) NB280_283.out _).trans (hHeld.1)), ((cell_far (p := ⟨gb283, _, none⟩) NB280_283.out _).trans (hHeld.2.1)), ((cell_far (p := ⟨gb283, _, none⟩) NB280_283.out _).trans (hHeld.2.2.1)), ((cell_far (p := ⟨gb283, _, none⟩) NB280_283.out _).trans (hHeld.2.2.2.1)), ((cell_far (p := ⟨gb283, _, none⟩) NB280_283.out _).trans (hHeld.2.2.2.2.1)), ((cell_far (p := ⟨gb283, _, none⟩) NB280_283.out _).trans (hHeld.2.2.2.2.2.1)), ((cell_far (p := ⟨gb283, _, none⟩) NB280_283.out _).trans (hHeld.2.2.2.2.2.2.1)), ((cell_far (p := ⟨gb283, _, none⟩) NB280_283.out _).trans (hHeld.2.2.2.2.2.2.2.1)), ((cell_far (p := ⟨gb283, _, none⟩) NB280_283.out _).trans (hHeld.2.2.2.2.2.2.2.2.1)), ((cell_far (p := ⟨gb283, _, none⟩) NB280_283.out _).trans (hHeld.2.2.2.2.2.2.2.2.2.1)), ((cell_far (p := ⟨gb283, _, none⟩) NB280_283.out _).trans (hHeld.2.2.2.2.2.2.2.2.2.2.1)), ((cell_far (p := ⟨gb283, _, none⟩) NB280_283.out _).trans (hHeld.2.2.2.2.2.2.2.2.2.2.2.1)), ((cell_far (p := ⟨gb283, _, none⟩) NB280_283.out _).trans (hHeld.2.2.2.2.2.2.2.2.2.2.2.2.1)), ((cell_far (p := ⟨gb283, _, none⟩) NB280_283.out _).trans (hHeld.2.2.2.2.2.2.2.2.2.2.2.2.2))⟩ (fun hHeld => ?_)
              clear hK K
              refine pure_ (i := 12) (N := some 82) (v := ?_) (a' := ?_) #[true, true, true, true, true, true, true, true, true, true, true, true, true, false, false, false] rfl rfl (any_of HT_.out (by kernel_rfl)) (fun _ _ _ h => h) (Or.inl ⟨by rfl, ?_⟩) ?_ ?_
              rotate_left
              · intro w'
                go_simp
                with_reducible rfl
              rotate_left
              · simp only [Act.put, List.setIfInBounds_toArray, List.set_cons_zero, List.set_cons_succ, i64_w, i32_w]
                rfl
              refine one_ (i := 13) (N := none) #[true, true, true, true, true, true, true, true, true, true, true, true, true, true, false, false] rfl rfl (one_of HT_.out (by kernel_rfl)) (by decide) (fun K hK => ?_)
              have hs60 : w57.cell? ⟨gb283, 7, none⟩ = some (.int .i64 0) := (blk_cell BK283.out 7).trans rfl
              have hfs60 := blk_frozen BK283.out 7
              have hns60_0 := NB280_283.out
              have hms60_0 := NB283_280.out
              refine skip_ (w1 := ?_) (by rfl) rfl ?_ ?_
              rotate_left
              · go_simp
                rfl
              refine hK.out _ _ ⟨((cell_far (p := ⟨gb283, _, none⟩) NB280_283.out _).trans (hHeld.1)), ((cell_far (p := ⟨gb283, _, none⟩) NB280_283.out _).trans (hHeld.2.1)), ((cell_far (p := ⟨gb283, _, none⟩) NB280_283.out _).trans (hHeld.2.2.1)), ((cell_far (p := ⟨gb283, _, none⟩) NB280_283.out _).trans (hHeld.2.2.2.1)), ((cell_far (p := ⟨gb283, _, none⟩) NB280_283.out _).trans (hHeld.2.2.2.2.1)), ((cell_far (p := ⟨gb283, _, none⟩) NB280_283.out _).trans (hHeld.2.2.2.2.2.1)), ((cell_far (p := ⟨gb283, _, none⟩) NB280_283.out _).trans (hHeld.2.2.2.2.2.2.1)), ((cell_far (p := ⟨gb283, _, none⟩) NB280_283.out _).trans (hHeld.2.2.2.2.2.2.2.1)), ((cell_far (p := ⟨gb283, _, none⟩) NB280_283.out _).trans (hHeld.2.2.2.2.2.2.2.2.1)), ((cell_far (p := ⟨gb283, _, none⟩) NB280_283.out _).trans (hHeld.2.2.2.2.2.2.2.2.2.1)), ((cell_far (p := ⟨gb283, _, none⟩) NB280_283.out _).trans (hHeld.2.2.2.2.2.2.2.2.2.2.1)), ((cell_far (p := ⟨gb283, _, none⟩) NB280_283.out _).trans (hHeld.2.2.2.2.2.2.2.2.2.2.2.1)), ((cell_far (p := ⟨gb283, _, none⟩) NB280_283.out _).trans (hHeld.2.2.2.2.2.2.2.2.2.2.2.2.1)), ((cell_far (p := ⟨gb283, _, none⟩) NB280_283.out _).trans (hHeld.2.2.2.2.2.2.2.2.2.2.2.2.2))⟩ (fun hHeld => ?_)
              clear hK K
              refine pure_ (i := 14) (N := some 83) (v := ?_) (a' := ?_) #[true, true, true, true, true, true, true, true, true, true, true, true, true, true, true, false] rfl rfl (any_of HT_.out (by kernel_rfl)) (fun _ _ _ h => h) (Or.inl ⟨by rfl, ?_⟩) ?_ ?_
              rotate_left
              · intro w'
                go_simp
                with_reducible rfl
              rotate_left
              · simp only [Act.put, List.setIfInBounds_toArray, List.set_cons_zero, List.set_cons_succ, i64_w, i32_w]
                rfl
              refine one_ (i := 15) (N := none) #[true, true, true, true, true, true, true, true, true, true, true, true, true, true, true, true] rfl rfl (one_of HT_.out (by kernel_rfl)) (by decide) (fun K hK => ?_)
              have hs61 : w57.cell? ⟨gb283, 11, none⟩ = some (.int .i64 0) := (blk_cell BK283.out 11).trans rfl
              have hfs61 := blk_frozen BK283.out 11
              have hns61_0 := NB280_283.out
              have hms61_0 := NB283_280.out
              refine skip_ (w1 := ?_) (by rfl) rfl ?_ ?_
              rotate_left
              · go_simp
                rfl
              refine hK.out _ _ ⟨((cell_far (p := ⟨gb283, _, none⟩) NB280_283.out _).trans (hHeld.1)), ((cell_far (p := ⟨gb283, _, none⟩) NB280_283.out _).trans (hHeld.2.1)), ((cell_far (p := ⟨gb283, _, none⟩) NB280_283.out _).trans (hHeld.2.2.1)), ((cell_far (p := ⟨gb283, _, none⟩) NB280_283.out _).trans (hHeld.2.2.2.1)), ((cell_far (p := ⟨gb283, _, none⟩) NB280_283.out _).trans (hHeld.2.2.2.2.1)), ((cell_far (p := ⟨gb283, _, none⟩) NB280_283.out _).trans (hHeld.2.2.2.2.2.1)), ((cell_far (p := ⟨gb283, _, none⟩) NB280_283.out _).trans (hHeld.2.2.2.2.2.2.1)), ((cell_far (p := ⟨gb283, _, none⟩) NB280_283.out _).trans (hHeld.2.2.2.2.2.2.2.1)), ((cell_far (p := ⟨gb283, _, none⟩) NB280_283.out _).trans (hHeld.2.2.2.2.2.2.2.2.1)), ((cell_far (p := ⟨gb283, _, none⟩) NB280_283.out _).trans (hHeld.2.2.2.2.2.2.2.2.2.1)), ((cell_far (p := ⟨gb283, _, none⟩) NB280_283.out _).trans (hHeld.2.2.2.2.2.2.2.2.2.2.1)), ((cell_far (p := ⟨gb283, _, none⟩) NB280_283.out _).trans (hHeld.2.2.2.2.2.2.2.2.2.2.2.1)), ((cell_far (p := ⟨gb283, _, none⟩) NB280_283.out _).trans (hHeld.2.2.2.2.2.2.2.2.2.2.2.2.1)), ((cell_far (p := ⟨gb283, _, none⟩) NB280_283.out _).trans (hHeld.2.2.2.2.2.2.2.2.2.2.2.2.2))⟩ (fun hHeld => ?_)
              clear hK K
              refine done_ (done_of HT_.out (by kernel_rfl)) ?_
              try go_wp2
              go_meet
              case rel => exact ⟨_, (a0_7), (a0_9), (a0_10), (a0_11), H', ⟨by have := HJ1.out; first | omega | exact Nat.le_refl _⟩, ⟨by (with_reducible repeat (first | refine blk_drewN ?_ _ | refine blk_drew ?_ | refine blk_alloc ?_ _)); refine blk_far ?_ NB280_283.out _; (with_reducible repeat (first | refine blk_drewN ?_ _ | refine blk_drew ?_ | refine blk_alloc ?_ _)); refine blk_far ?_ NB280_283.out _; (with_reducible repeat (first | refine blk_drewN ?_ _ | refine blk_drew ?_ | refine blk_alloc ?_ _)); refine blk_far ?_ NB280_283.out _; (with_reducible repeat (first | refine blk_drewN ?_ _ | refine blk_drew ?_ | refine blk_alloc ?_ _)); refine blk_far ?_ NB280_283.out _; (with_reducible repeat (first | refine blk_drewN ?_ _ | refine blk_drew ?_ | refine blk_alloc ?_ _)); exact BK280.out⟩, ⟨by (with_reducible repeat (first | refine blk_drewN ?_ _ | refine blk_drew ?_ | refine blk_alloc ?_ _)); refine blk_put (cs := #[.int .i64 a0_0, .int .i64 a0_1, .int .i64 a0_2, .int .i64 a0_3, .bool a0_4, .int .i64 0, .int .i64 0, .int .i64 a0_7, .int .i64 0, .int .i64 a0_9, .int .i64 a0_10, .int .i64 0, .int .i64 0, .int .i64 0]) ?_ 11 _ rfl; (with_reducible repeat (first | refine blk_drewN ?_ _ | refine blk_drew ?_ | refine blk_alloc ?_ _)); refine blk_put (cs := #[.int .i64 a0_0, .int .i64 a0_1, .int .i64 a0_2, .int .i64 a0_3, .bool a0_4, .int .i64 0, .int .i64 0, .int .i64 0, .int .i64 0, .int .i64 a0_9, .int .i64 a0_10, .int .i64 0, .int .i64 0, .int .i64 0]) ?_ 7 _ rfl; (with_reducible repeat (first | refine blk_drewN ?_ _ | refine blk_drew ?_ | refine blk_alloc ?_ _)); refine blk_put (cs := #[.int .i64 a0_0, .int .i64 a0_1, .int .i64 a0_2, .int .i64 a0_3, .bool a0_4, .int .i64 0, .int .i64 0, .int .i64 0, .int .i64 0, .int .i64 a0_9, .int .i64 0, .int .i64 0, .int .i64 0, .int .i64 0]) ?_ 10 _ rfl; (with_reducible repeat (first | refine blk_drewN ?_ _ | refine blk_drew ?_ | refine blk_alloc ?_ _)); refine blk_put (cs := #[.int .i64 a0_0, .int .i64 a0_1, .int .i64 a0_2, .int .i64 a0_3, .bool a0_4, .int .i64 0, .int .i64 0, .int .i64 0, .int .i64 0, .int .i64 0, .int .i64 0, .int .i64 0, .int .i64 0, .int .i64 0]) ?_ 9 _ rfl; (with_reducible repeat (first | refine blk_drewN ?_ _ | refine blk_drew ?_ | refine blk_alloc ?_ _)); exact BK283.out⟩, ⟨by repeat (first | (with_reducible first | exact HB.out | apply below_alloc | apply pw_below_drewN | apply below_drew1 | refine below_set ?_ GE280.out | refine below_set ?_ GE283.out) | exact HB.out)⟩⟩
            case rest =>
              clear HC50
              try clear c1
              try clear c2
              try clear p2
              try clear c3
              try clear c4
              try clear c5
              try clear c14
              try clear c14b0
              try clear c14b1
              try clear c19
              try clear c28
              try clear c30
              try clear c32
              try clear c33
              try clear c38
              try clear c42
              try clear c46
              try clear c49
              try clear c49b0
              try clear c49b1
              try clear c53
              try clear hcz10_3
              try clear hcz10_4
              try clear hcz10_5
              try clear hcz10_6
              try clear hcz10_7
              try clear hcz10_8
              try clear hcz10_9
              try clear hcz11_0
              try clear hcz11_1
              try clear hcz11_10
              try clear hcz11_11
              try clear hcz11_12
              try clear hcz11_13
              try clear hcz11_2
              try clear hcz11_3
              try clear hcz11_4
              try clear hcz11_5
              try clear hcz11_6
              try clear hcz11_7
              try clear hcz11_8
              try clear hcz11_9
              try clear hcz12_0
              try clear hcz12_1
              try clear hcz12_10
              try clear hcz12_11
              try clear hcz12_12
              try clear hcz12_13
              try clear hcz12_2
              try clear hcz12_3
              try clear hcz12_4
              try clear hcz12_5
              try clear hcz12_6
              try clear hcz12_7
              try clear hcz12_8
              try clear hcz12_9
              try clear hcz16_0
              try clear hcz16_1
              try clear hcz16_10
              try clear hcz16_11
              try clear hcz16_12
              try clear hcz16_13
              try clear hcz16_2
              try clear hcz16_3
              try clear hcz16_4
              try clear hcz16_5
              try clear hcz16_6
              try clear hcz16_7
              try clear hcz16_8
              try clear hcz16_9
              try clear hcz19_0
              try clear hcz19_1
              try clear hcz19_10
              try clear hcz19_11
              try clear hcz19_12
              try clear hcz19_13
              try clear hcz19_2
              try clear hcz19_3
              try clear hcz19_4
              try clear hcz19_5
              try clear hcz19_6
              try clear hcz19_7
              try clear hcz19_8
              try clear hcz19_9
              try clear hcz20_0
              try clear hcz20_1
              try clear hcz20_10
              try clear hcz20_11
              try clear hcz20_12
              try clear hcz20_13
              try clear hcz20_2
              try clear hcz20_3
              try clear hcz20_4
              try clear hcz20_5
              try clear hcz20_6
              try clear hcz20_7
              try clear hcz20_8
              try clear hcz20_9
              try clear hcz34_0
              try clear hcz34_1
              try clear hcz34_10
              try clear hcz34_11
              try clear hcz34_12
              try clear hcz34_13
              try clear hcz34_2
              try clear hcz34_3
              try clear hcz34_4
              try clear hcz34_5
              try clear hcz34_6
              try clear hcz34_7
              try clear hcz34_8
              try clear hcz34_9
              try clear hcz36_0
              try clear hcz36_1
              try clear hcz36_10
              try clear hcz36_11
              try clear hcz36_12
              try clear hcz36_13
              try clear hcz36_2
              try clear hcz36_3
              try clear hcz36_4
              try clear hcz36_5
              try clear hcz36_6
              try clear hcz36_7
              try clear hcz36_8
              try clear hcz36_9
              try clear hcz37_0
              try clear hcz37_1
              try clear hcz37_10
              try clear hcz37_11
              try clear hcz37_12
              try clear hcz37_13
              try clear hcz37_2
              try clear hcz37_3
              try clear hcz37_4
              try clear hcz37_5
              try clear hcz37_6
              try clear hcz37_7
              try clear hcz37_8
              try clear hcz37_9
              try clear hcz39_0
              try clear hcz39_1
              try clear hcz39_10
              try clear hcz39_11
              try clear hcz39_12
              try clear hcz39_13
              try clear hcz39_2
              try clear hcz39_3
              try clear hcz39_4
              try clear hcz39_5
              try clear hcz39_6
              try clear hcz39_7
              try clear hcz39_8
              try clear hcz39_9
              try clear hcz41_0
              try clear hcz41_1
              try clear hcz41_10
              try clear hcz41_11
              try clear hcz41_12
              try clear hcz41_13
              try clear hcz41_2
              try clear hcz41_3
              try clear hcz41_4
              try clear hcz41_5
              try clear hcz41_6
              try clear hcz41_7
              try clear hcz41_8
              try clear hcz41_9
              try clear hcz43_0
              try clear hcz43_1
              try clear hcz43_10
              try clear hcz43_11
              try clear hcz43_12
              try clear hcz43_13
              try clear hcz43_2
              try clear hcz43_3
              try clear hcz43_4
              try clear hcz43_5
              try clear hcz43_6
              try clear hcz43_7
              try clear hcz43_8
              try clear hcz43_9
              try clear hcz45_0
              try clear hcz45_1
              try clear hcz45_10
              try clear hcz45_11
              try clear hcz45_12
              try clear hcz45_13
              try clear hcz45_2
              try clear hcz45_3
              try clear hcz45_4
              try clear hcz45_5
              try clear hcz45_6
              try clear hcz45_7
              try clear hcz45_8
              try clear hcz45_9
              try clear hcz47_0
              try clear hcz47_1
              try clear hcz47_10
              try clear hcz47_11
              try clear hcz47_12
              try clear hcz47_13
              try clear hcz47_2
              try clear hcz47_3
              try clear hcz47_4
              try clear hcz47_5
              try clear hcz47_6
              try clear hcz47_7
              try clear hcz47_8
              try clear hcz47_9
              try clear hcz51_0
              try clear hcz51_1
              try clear hcz51_10
              try clear hcz51_11
              try clear hcz51_12
              try clear hcz51_13
              try clear hcz51_2
              try clear hcz51_3
              try clear hcz51_4
              try clear hcz51_5
              try clear hcz51_6
              try clear hcz51_7
              try clear hcz51_8
              try clear hcz51_9
              try clear hcz54_0
              try clear hcz54_1
              try clear hcz54_10
              try clear hcz54_11
              try clear hcz54_12
              try clear hcz54_13
              try clear hcz54_2
              try clear hcz54_3
              try clear hcz54_4
              try clear hcz54_5
              try clear hcz54_6
              try clear hcz54_7
              try clear hcz54_8
              try clear hcz54_9
              try clear hcz55_0
              try clear hcz55_1
              try clear hcz55_10
              try clear hcz55_11
              try clear hcz55_12
              try clear hcz55_13
              try clear hcz55_2
              try clear hcz55_3
              try clear hcz55_4
              try clear hcz55_5
              try clear hcz55_6
              try clear hcz55_7
              try clear hcz55_8
              try clear hcz55_9
              try clear hcz9_0
              try clear hcz9_1
              try clear hcz9_10
              try clear hcz9_11
              try clear hcz9_12
              try clear hcz9_13
              try clear hcz9_2
              try clear hcz9_3
              try clear hcz9_4
              try clear hcz9_5
              try clear hcz9_6
              try clear hcz9_7
              try clear hcz9_8
              try clear hcz9_9
              try clear hfz10_0
              try clear hfz10_1
              try clear hfz10_10
              try clear hfz10_11
              try clear hfz10_12
              try clear hfz10_13
              try clear hfz10_2
              try clear hfz10_3
              try clear hfz10_4
              try clear hfz10_5
              try clear hfz10_6
              try clear hfz10_7
              try clear hfz10_8
              try clear hfz10_9
              try clear hfz11_0
              try clear hfz11_1
              try clear hfz11_10
              try clear hfz11_11
              try clear hfz11_12
              try clear hfz11_13
              try clear hfz11_2
              try clear hfz11_3
              try clear hfz11_4
              try clear hfz11_5
              try clear hfz11_6
              try clear hfz11_7
              try clear hfz11_8
              try clear hfz11_9
              try clear hfz12_0
              try clear hfz12_1
              try clear hfz12_10
              try clear hfz12_11
              try clear hfz12_12
              try clear hfz12_13
              try clear hfz12_2
              try clear hfz12_3
              try clear hfz12_4
              try clear hfz12_5
              try clear hfz12_6
              try clear hfz12_7
              try clear hfz12_8
              try clear hfz12_9
              try clear hfz16_0
              try clear hfz16_1
              try clear hfz16_10
              try clear hfz16_11
              try clear hfz16_12
              try clear hfz16_13
              try clear hfz16_2
              try clear hfz16_3
              try clear hfz16_4
              try clear hfz16_5
              try clear hfz16_6
              try clear hfz16_7
              try clear hfz16_8
              try clear hfz16_9
              try clear hfz19_0
              try clear hfz19_1
              try clear hfz19_10
              try clear hfz19_11
              try clear hfz19_12
              try clear hfz19_13
              try clear hfz19_2
              try clear hfz19_3
              try clear hfz19_4
              try clear hfz19_5
              try clear hfz19_6
              try clear hfz19_7
              try clear hfz19_8
              try clear hfz19_9
              try clear hfz20_0
              try clear hfz20_1
              try clear hfz20_10
              try clear hfz20_11
              try clear hfz20_12
              try clear hfz20_13
              try clear hfz20_2
              try clear hfz20_3
              try clear hfz20_4
              try clear hfz20_5
              try clear hfz20_6
              try clear hfz20_7
              try clear hfz20_8
              try clear hfz20_9
              try clear hfz34_0
              try clear hfz34_1
              try clear hfz34_10
              try clear hfz34_11
              try clear hfz34_12
              try clear hfz34_13
              try clear hfz34_2
              try clear hfz34_3
              try clear hfz34_4
              try clear hfz34_5
              try clear hfz34_6
              try clear hfz34_7
              try clear hfz34_8
              try clear hfz34_9
              try clear hfz36_0
              try clear hfz36_1
              try clear hfz36_10
              try clear hfz36_11
              try clear hfz36_12
              try clear hfz36_13
              try clear hfz36_2
              try clear hfz36_3
              try clear hfz36_4
              try clear hfz36_5
              try clear hfz36_6
              try clear hfz36_7
              try clear hfz36_8
              try clear hfz36_9
              try clear hfz37_0
              try clear hfz37_1
              try clear hfz37_10
              try clear hfz37_11
              try clear hfz37_12
              try clear hfz37_13
              try clear hfz37_2
              try clear hfz37_3
              try clear hfz37_4
              try clear hfz37_5
              try clear hfz37_6
              try clear hfz37_7
              try clear hfz37_8
              try clear hfz37_9
              try clear hfz39_0
              try clear hfz39_1
              try clear hfz39_10
              try clear hfz39_11
              try clear hfz39_12
              try clear hfz39_13
              try clear hfz39_2
              try clear hfz39_3
              try clear hfz39_4
              try clear hfz39_5
              try clear hfz39_6
              try clear hfz39_7
              try clear hfz39_8
              try clear hfz39_9
              try clear hfz41_0
              try clear hfz41_1
              try clear hfz41_10
              try clear hfz41_11
              try clear hfz41_12
              try clear hfz41_13
              try clear hfz41_2
              try clear hfz41_3
              try clear hfz41_4
              try clear hfz41_5
              try clear hfz41_6
              try clear hfz41_7
              try clear hfz41_8
              try clear hfz41_9
              try clear hfz43_0
              try clear hfz43_1
              try clear hfz43_10
              try clear hfz43_11
              try clear hfz43_12
              try clear hfz43_13
              try clear hfz43_2
              try clear hfz43_3
              try clear hfz43_4
              try clear hfz43_5
              try clear hfz43_6
              try clear hfz43_7
              try clear hfz43_8
              try clear hfz43_9
              try clear hfz45_0
              try clear hfz45_1
              try clear hfz45_10
              try clear hfz45_11
              try clear hfz45_12
              try clear hfz45_13
              try clear hfz45_2
              try clear hfz45_3
              try clear hfz45_4
              try clear hfz45_5
              try clear hfz45_6
              try clear hfz45_7
              try clear hfz45_8
              try clear hfz45_9
              try clear hfz47_0
              try clear hfz47_1
              try clear hfz47_10
              try clear hfz47_11
              try clear hfz47_12
              try clear hfz47_13
              try clear hfz47_2
              try clear hfz47_3
              try clear hfz47_4
              try clear hfz47_5
              try clear hfz47_6
              try clear hfz47_7
              try clear hfz47_8
              try clear hfz47_9
              try clear hfz51_0
              try clear hfz51_1
              try clear hfz51_10
              try clear hfz51_11
              try clear hfz51_12
              try clear hfz51_13
              try clear hfz51_2
              try clear hfz51_3
              try clear hfz51_4
              try clear hfz51_5
              try clear hfz51_6
              try clear hfz51_7
              try clear hfz51_8
              try clear hfz51_9
              try clear hfz54_0
              try clear hfz54_1
              try clear hfz54_10
              try clear hfz54_11
              try clear hfz54_12
              try clear hfz54_13
              try clear hfz54_2
              try clear hfz54_3
              try clear hfz54_4
              try clear hfz54_5
              try clear hfz54_6
              try clear hfz54_7
              try clear hfz54_8
              try clear hfz54_9
              try clear hfz55_0
              try clear hfz55_1
              try clear hfz55_10
              try clear hfz55_11
              try clear hfz55_12
              try clear hfz55_13
              try clear hfz55_2
              try clear hfz55_3
              try clear hfz55_4
              try clear hfz55_5
              try clear hfz55_6
              try clear hfz55_7
              try clear hfz55_8
              try clear hfz55_9
              try clear hfz9_0
              try clear hfz9_1
              try clear hfz9_10
              try clear hfz9_11
              try clear hfz9_12
              try clear hfz9_13
              try clear hfz9_2
              try clear hfz9_3
              try clear hfz9_4
              try clear hfz9_5
              try clear hfz9_6
              try clear hfz9_7
              try clear hfz9_8
              try clear hfz9_9
              try clear p2
              obtain ⟨kq, x284007_49, x284009_49, x284010_49, x284011_49, HA, HJ49, BK280, BK283, HB⟩ := hcut
              cases kq with
              | zero => exact absurd HA.out (by simp [impl_TaskOk0.j2])
              | succ kj49 =>
                have H := HA.out
                clear HA
                simp only [impl_TaskOk0.j2] at H
                replace H := Option.bind_eq_some_iff.mp H
                obtain ⟨t287, A620, H⟩ := H
                replace H : (if t287 = true then ((impl_in.f a0_10 0 10).bind fun t288 => (if t288 = true then ((impl_in.f a0_7 (mn 1 a0_10) a0_10).bind fun t289 => (if t289 = true then ((impl_isSeq.f a0_11).bind fun t290 => (if t290 = true then (some (a0_0 == a0_0 && (a0_1 == a0_1 && (a0_2 == a0_2 && (a0_3 == a0_3 && (a0_4 == a0_4 && (a0_5 == 0 && (a0_6 == 0 && (a0_7 == x284007_49 && (a0_8 == 0 && (a0_9 == x284009_49 && (a0_10 == x284010_49 && (a0_11 == x284011_49 && (a0_12 == 0 && (a0_13 == 0))))))))))))))) else (some false))) else (some false))) else (some false))) else (some false)) = some r := H
                have A62 := Aside0.mk A620
                clear A620
                by_cases c63 : t287 = true
                · subst c63
                  have H1 : ((impl_in.f a0_10 0 10).bind fun t288 => (if t288 = true then ((impl_in.f a0_7 (mn 1 a0_10) a0_10).bind fun t289 => (if t289 = true then ((impl_isSeq.f a0_11).bind fun t290 => (if t290 = true then (some (a0_0 == a0_0 && (a0_1 == a0_1 && (a0_2 == a0_2 && (a0_3 == a0_3 && (a0_4 == a0_4 && (a0_5 == 0 && (a0_6 == 0 && (a0_7 == x284007_49 && (a0_8 == 0 && (a0_9 == x284009_49 && (a0_10 == x284010_49 && (a0_11 == x284011_49 && (a0_12 == 0 && (a0_13 == 0))))))))))))))) else (some false))) else (some false))) else (some false))) = some r := by rw [if_pos rfl] at H; exact H
                  clear H
                  have H := H1
                  clear H1
                  replace H := Option.bind_eq_some_iff.mp H
                  obtain ⟨t288, A640, H⟩ := H
                  replace H : (if t288 = true then ((impl_in.f a0_7 (mn 1 a0_10) a0_10).bind fun t289 => (if t289 = true then ((impl_isSeq.f a0_11).bind fun t290 => (if t290 = true then (some (a0_0 == a0_0 && (a0_1 == a0_1 && (a0_2 == a0_2 && (a0_3 == a0_3 && (a0_4 == a0_4 && (a0_5 == 0 && (a0_6 == 0 && (a0_7 == x284007_49 && (a0_8 == 0 && (a0_9 == x284009_49 && (a0_10 == x284010_49 && (a0_11 == x284011_49 && (a0_12 == 0 && (a0_13 == 0))))))))))))))) else (some false))) else (some false))) else (some false)) = some r := H
                  have A64 := Aside0.mk A640
                  clear A640
                  by_cases c65 : t288 = true
                  · subst c65
                    have H1 : ((impl_in.f a0_7 (mn 1 a0_10) a0_10).bind fun t289 => (if t289 = true then ((impl_isSeq.f a0_11).bind fun t290 => (if t290 = true then (some (a0_0 == a0_0 && (a0_1 == a0_1 && (a0_2 == a0_2 && (a0_3 == a0_3 && (a0_4 == a0_4 && (a0_5 == 0 && (a0_6 == 0 && (a0_7 == x284007_49 && (a0_8 == 0 && (a0_9 == x284009_49 && (a0_10 == x284010_49 && (a0_11 == x284011_49 && (a0_12 == 0 && (a0_13 == 0))))))))))))))) else (some false))) else (some false))) = some r := by rw [if_pos rfl] at H; exact H
                    clear H
                    have H := H1
                    clear H1
                    obtain ⟨ji66, hji66⟩ : ∃ j_ : Int, (mn 1 a0_10) = j_ := ⟨_, rfl⟩
                    replace H : ((impl_in.f a0_7 (ji66) a0_10).bind fun t289 => (if t289 = true then ((impl_isSeq.f a0_11).bind fun t290 => (if t290 = true then (some (a0_0 == a0_0 && (a0_1 == a0_1 && (a0_2 == a0_2 && (a0_3 == a0_3 && (a0_4 == a0_4 && (a0_5 == 0 && (a0_6 == 0 && (a0_7 == x284007_49 && (a0_8 == 0 && (a0_9 == x284009_49 && (a0_10 == x284010_49 && (a0_11 == x284011_49 && (a0_12 == 0 && (a0_13 == 0))))))))))))))) else (some false))) else (some false))) = some r := by first | (rw [hji66] at H; exact H) | (simp only [hji66] at H ⊢; exact H)
                    (try rw [hji66] at A62)
                    (try rw [hji66] at A64)
                    have hji66_ : (if a0_10 < 1 then a0_10 else 1) = ji66 := hji66
                    replace H := Option.bind_eq_some_iff.mp H
                    obtain ⟨t289, A670, H⟩ := H
                    replace H : (if t289 = true then ((impl_isSeq.f a0_11).bind fun t290 => (if t290 = true then (some (a0_0 == a0_0 && (a0_1 == a0_1 && (a0_2 == a0_2 && (a0_3 == a0_3 && (a0_4 == a0_4 && (a0_5 == 0 && (a0_6 == 0 && (a0_7 == x284007_49 && (a0_8 == 0 && (a0_9 == x284009_49 && (a0_10 == x284010_49 && (a0_11 == x284011_49 && (a0_12 == 0 && (a0_13 == 0))))))))))))))) else (some false))) else (some false)) = some r := H
                    have A67 := Aside0.mk A670
                    clear A670
                    by_cases c68 : t289 = true
                    · subst c68
                      have H1 : ((impl_isSeq.f a0_11).bind fun t290 => (if t290 = true then (some (a0_0 == a0_0 && (a0_1 == a0_1 && (a0_2 == a0_2 && (a0_3 == a0_3 && (a0_4 == a0_4 && (a0_5 == 0 && (a0_6 == 0 && (a0_7 == x284007_49 && (a0_8 == 0 && (a0_9 == x284009_49 && (a0_10 == x284010_49 && (a0_11 == x284011_49 && (a0_12 == 0 && (a0_13 == 0))))))))))))))) else (some false))) = some r := by rw [if_pos rfl] at H; exact H
                      clear H
                      have H := H1
                      clear H1
                      replace H := Option.bind_eq_some_iff.mp H
                      obtain ⟨t290, A690, H⟩ := H
                      replace H : (if t290 = true then (some (a0_0 == a0_0 && (a0_1 == a0_1 && (a0_2 == a0_2 && (a0_3 == a0_3 && (a0_4 == a0_4 && (a0_5 == 0 && (a0_6 == 0 && (a0_7 == x284007_49 && (a0_8 == 0 && (a0_9 == x284009_49 && (a0_10 == x284010_49 && (a0_11 == x284011_49 && (a0_12 == 0 && (a0_13 == 0))))))))))))))) else (some false)) = some r := H
                      have A69 := Aside0.mk A690
                      clear A690
                      by_cases c70 : t290 = true
                      · subst c70
                        have H1 : (some (a0_0 == a0_0 && (a0_1 == a0_1 && (a0_2 == a0_2 && (a0_3 == a0_3 && (a0_4 == a0_4 && (a0_5 == 0 && (a0_6 == 0 && (a0_7 == x284007_49 && (a0_8 == 0 && (a0_9 == x284009_49 && (a0_10 == x284010_49 && (a0_11 == x284011_49 && (a0_12 == 0 && (a0_13 == 0))))))))))))))) = some r := by rw [if_pos rfl] at H; exact H
                        clear H
                        have H := H1
                        clear H1
                        obtain rfl := Option.some.inj H
                        have hnb71 := NB280_283.out
                        have hnc71 := NB283_280.out
                        have hcz72_0 : wc.cell? ⟨gb280, 0, none⟩ = some (.int .i64 a0_0) := (blk_cell BK280.out 0).trans rfl
                        have hcz72_1 : wc.cell? ⟨gb280, 1, none⟩ = some (.int .i64 a0_1) := (blk_cell BK280.out 1).trans rfl
                        have hcz72_2 : wc.cell? ⟨gb280, 2, none⟩ = some (.int .i64 a0_2) := (blk_cell BK280.out 2).trans rfl
                        have hcz72_3 : wc.cell? ⟨gb280, 3, none⟩ = some (.int .i64 a0_3) := (blk_cell BK280.out 3).trans rfl
                        have hcz72_4 : wc.cell? ⟨gb280, 4, none⟩ = some (.bool a0_4) := (blk_cell BK280.out 4).trans rfl
                        have hcz72_5 : wc.cell? ⟨gb280, 5, none⟩ = some (.int .i64 a0_5) := (blk_cell BK280.out 5).trans rfl
                        have hcz72_6 : wc.cell? ⟨gb280, 6, none⟩ = some (.int .i64 a0_6) := (blk_cell BK280.out 6).trans rfl
                        have hcz72_7 : wc.cell? ⟨gb280, 7, none⟩ = some (.int .i64 a0_7) := (blk_cell BK280.out 7).trans rfl
                        have hcz72_8 : wc.cell? ⟨gb280, 8, none⟩ = some (.int .i64 a0_8) := (blk_cell BK280.out 8).trans rfl
                        have hcz72_9 : wc.cell? ⟨gb280, 9, none⟩ = some (.int .i64 a0_9) := (blk_cell BK280.out 9).trans rfl
                        have hcz72_10 : wc.cell? ⟨gb280, 10, none⟩ = some (.int .i64 a0_10) := (blk_cell BK280.out 10).trans rfl
                        have hcz72_11 : wc.cell? ⟨gb280, 11, none⟩ = some (.int .i64 a0_11) := (blk_cell BK280.out 11).trans rfl
                        have hcz72_12 : wc.cell? ⟨gb280, 12, none⟩ = some (.int .i64 a0_12) := (blk_cell BK280.out 12).trans rfl
                        have hcz72_13 : wc.cell? ⟨gb280, 13, none⟩ = some (.int .i64 a0_13) := (blk_cell BK280.out 13).trans rfl
                        have hfz72_0 := blk_frozen BK280.out 0
                        have hfz72_1 := blk_frozen BK280.out 1
                        have hfz72_2 := blk_frozen BK280.out 2
                        have hfz72_3 := blk_frozen BK280.out 3
                        have hfz72_4 := blk_frozen BK280.out 4
                        have hfz72_5 := blk_frozen BK280.out 5
                        have hfz72_6 := blk_frozen BK280.out 6
                        have hfz72_7 := blk_frozen BK280.out 7
                        have hfz72_8 := blk_frozen BK280.out 8
                        have hfz72_9 := blk_frozen BK280.out 9
                        have hfz72_10 := blk_frozen BK280.out 10
                        have hfz72_11 := blk_frozen BK280.out 11
                        have hfz72_12 := blk_frozen BK280.out 12
                        have hfz72_13 := blk_frozen BK280.out 13
                        go_wp2_with (first | ((with_reducible refine gate_callee (f := 42) rfl ?_); refine goesL_ (some 86) rfl rfl Try.func42 (by kernel_rfl) rfl #[.int .i64 a0_9, .int .i64 1, .int .i64 20] rfl (by (try simp only [List.map_toArray, List.map_cons, List.map_nil]); first | done | rfl | (simp only [List.length_drop, List.length_take]; rfl)) ?_; (with_reducible refine (impl_in.calls a0_9 1 20 true _ A62.out).mono ?_); rintro e w' ⟨rfl, ⟨nd, rfl⟩⟩; refine ⟨_, rfl, ?_⟩) | (go_at_call 42; (with_reducible refine (impl_in.calls a0_10 0 10 true _ A64.out).mono ?_); rintro e w' ⟨rfl, ⟨nd, rfl⟩⟩) | (go_at_call 42; (with_reducible refine (impl_in.calls a0_7 ji66 a0_10 true _ A67.out).mono ?_); rintro e w' ⟨rfl, ⟨nd, rfl⟩⟩) | (go_at_call 53; (with_reducible refine (impl_isSeq.calls a0_11 true _ A69.out).mono ?_); rintro e w' ⟨rfl, ⟨nd, rfl⟩⟩; have hcz73_0 : wc.cell? ⟨gb283, 0, none⟩ = some (.int .i64 a0_0) := (blk_cell BK283.out 0).trans rfl; have hcz73_1 : wc.cell? ⟨gb283, 1, none⟩ = some (.int .i64 a0_1) := (blk_cell BK283.out 1).trans rfl; have hcz73_2 : wc.cell? ⟨gb283, 2, none⟩ = some (.int .i64 a0_2) := (blk_cell BK283.out 2).trans rfl; have hcz73_3 : wc.cell? ⟨gb283, 3, none⟩ = some (.int .i64 a0_3) := (blk_cell BK283.out 3).trans rfl; have hcz73_4 : wc.cell? ⟨gb283, 4, none⟩ = some (.bool a0_4) := (blk_cell BK283.out 4).trans rfl; have hcz73_5 : wc.cell? ⟨gb283, 5, none⟩ = some (.int .i64 0) := (blk_cell BK283.out 5).trans rfl; have hcz73_6 : wc.cell? ⟨gb283, 6, none⟩ = some (.int .i64 0) := (blk_cell BK283.out 6).trans rfl; have hcz73_7 : wc.cell? ⟨gb283, 7, none⟩ = some (.int .i64 x284007_49) := (blk_cell BK283.out 7).trans rfl; have hcz73_8 : wc.cell? ⟨gb283, 8, none⟩ = some (.int .i64 0) := (blk_cell BK283.out 8).trans rfl; have hcz73_9 : wc.cell? ⟨gb283, 9, none⟩ = some (.int .i64 x284009_49) := (blk_cell BK283.out 9).trans rfl; have hcz73_10 : wc.cell? ⟨gb283, 10, none⟩ = some (.int .i64 x284010_49) := (blk_cell BK283.out 10).trans rfl; have hcz73_11 : wc.cell? ⟨gb283, 11, none⟩ = some (.int .i64 x284011_49) := (blk_cell BK283.out 11).trans rfl; have hcz73_12 : wc.cell? ⟨gb283, 12, none⟩ = some (.int .i64 0) := (blk_cell BK283.out 12).trans rfl; have hcz73_13 : wc.cell? ⟨gb283, 13, none⟩ = some (.int .i64 0) := (blk_cell BK283.out 13).trans rfl; have hfz73_0 := blk_frozen BK283.out 0; have hfz73_1 := blk_frozen BK283.out 1; have hfz73_2 := blk_frozen BK283.out 2; have hfz73_3 := blk_frozen BK283.out 3; have hfz73_4 := blk_frozen BK283.out 4; have hfz73_5 := blk_frozen BK283.out 5; have hfz73_6 := blk_frozen BK283.out 6; have hfz73_7 := blk_frozen BK283.out 7; have hfz73_8 := blk_frozen BK283.out 8; have hfz73_9 := blk_frozen BK283.out 9; have hfz73_10 := blk_frozen BK283.out 10; have hfz73_11 := blk_frozen BK283.out 11; have hfz73_12 := blk_frozen BK283.out 12; have hfz73_13 := blk_frozen BK283.out 13))
                        go_ret
                        exact ⟨by first | rfl | (simp [errW_none, errW_some] <;> rfl) | (simp only [← hji66]; first | rfl | (simp [errW_none, errW_some] <;> rfl)) | (simp [*, errW_none, errW_some] <;> rfl), by repeat (first | (with_reducible first | exact HB.out | apply below_alloc | apply pw_below_drewN | apply below_drew1 | refine below_set ?_ GE280.out | refine below_set ?_ GE283.out) | exact HB.out)⟩
                      · replace c70 := Bool.eq_false_iff.mpr c70
                        subst c70
                        have H1 : (some false) = some r := by rw [if_neg (show ¬ (false = true) by decide)] at H; exact H
                        clear H
                        have H := H1
                        clear H1
                        obtain rfl := Option.some.inj H
                        have hnb74 := NB280_283.out
                        have hnc74 := NB283_280.out
                        have hcz75_0 : wc.cell? ⟨gb280, 0, none⟩ = some (.int .i64 a0_0) := (blk_cell BK280.out 0).trans rfl
                        have hcz75_1 : wc.cell? ⟨gb280, 1, none⟩ = some (.int .i64 a0_1) := (blk_cell BK280.out 1).trans rfl
                        have hcz75_2 : wc.cell? ⟨gb280, 2, none⟩ = some (.int .i64 a0_2) := (blk_cell BK280.out 2).trans rfl
                        have hcz75_3 : wc.cell? ⟨gb280, 3, none⟩ = some (.int .i64 a0_3) := (blk_cell BK280.out 3).trans rfl
                        have hcz75_4 : wc.cell? ⟨gb280, 4, none⟩ = some (.bool a0_4) := (blk_cell BK280.out 4).trans rfl
                        have hcz75_5 : wc.cell? ⟨gb280, 5, none⟩ = some (.int .i64 a0_5) := (blk_cell BK280.out 5).trans rfl
                        have hcz75_6 : wc.cell? ⟨gb280, 6, none⟩ = some (.int .i64 a0_6) := (blk_cell BK280.out 6).trans rfl
                        have hcz75_7 : wc.cell? ⟨gb280, 7, none⟩ = some (.int .i64 a0_7) := (blk_cell BK280.out 7).trans rfl
                        have hcz75_8 : wc.cell? ⟨gb280, 8, none⟩ = some (.int .i64 a0_8) := (blk_cell BK280.out 8).trans rfl
                        have hcz75_9 : wc.cell? ⟨gb280, 9, none⟩ = some (.int .i64 a0_9) := (blk_cell BK280.out 9).trans rfl
                        have hcz75_10 : wc.cell? ⟨gb280, 10, none⟩ = some (.int .i64 a0_10) := (blk_cell BK280.out 10).trans rfl
                        have hcz75_11 : wc.cell? ⟨gb280, 11, none⟩ = some (.int .i64 a0_11) := (blk_cell BK280.out 11).trans rfl
                        have hcz75_12 : wc.cell? ⟨gb280, 12, none⟩ = some (.int .i64 a0_12) := (blk_cell BK280.out 12).trans rfl
                        have hcz75_13 : wc.cell? ⟨gb280, 13, none⟩ = some (.int .i64 a0_13) := (blk_cell BK280.out 13).trans rfl
                        have hfz75_0 := blk_frozen BK280.out 0
                        have hfz75_1 := blk_frozen BK280.out 1
                        have hfz75_2 := blk_frozen BK280.out 2
                        have hfz75_3 := blk_frozen BK280.out 3
                        have hfz75_4 := blk_frozen BK280.out 4
                        have hfz75_5 := blk_frozen BK280.out 5
                        have hfz75_6 := blk_frozen BK280.out 6
                        have hfz75_7 := blk_frozen BK280.out 7
                        have hfz75_8 := blk_frozen BK280.out 8
                        have hfz75_9 := blk_frozen BK280.out 9
                        have hfz75_10 := blk_frozen BK280.out 10
                        have hfz75_11 := blk_frozen BK280.out 11
                        have hfz75_12 := blk_frozen BK280.out 12
                        have hfz75_13 := blk_frozen BK280.out 13
                        go_wp2_with (first | ((with_reducible refine gate_callee (f := 42) rfl ?_); refine goesL_ (some 86) rfl rfl Try.func42 (by kernel_rfl) rfl #[.int .i64 a0_9, .int .i64 1, .int .i64 20] rfl (by (try simp only [List.map_toArray, List.map_cons, List.map_nil]); first | done | rfl | (simp only [List.length_drop, List.length_take]; rfl)) ?_; (with_reducible refine (impl_in.calls a0_9 1 20 true _ A62.out).mono ?_); rintro e w' ⟨rfl, ⟨nd, rfl⟩⟩; refine ⟨_, rfl, ?_⟩) | (go_at_call 42; (with_reducible refine (impl_in.calls a0_10 0 10 true _ A64.out).mono ?_); rintro e w' ⟨rfl, ⟨nd, rfl⟩⟩) | (go_at_call 42; (with_reducible refine (impl_in.calls a0_7 ji66 a0_10 true _ A67.out).mono ?_); rintro e w' ⟨rfl, ⟨nd, rfl⟩⟩) | (go_at_call 53; (with_reducible refine (impl_isSeq.calls a0_11 false _ A69.out).mono ?_); rintro e w' ⟨rfl, ⟨nd, rfl⟩⟩))
                        go_ret
                        exact ⟨by first | rfl | (simp [errW_none, errW_some] <;> rfl) | (simp only [← hji66]; first | rfl | (simp [errW_none, errW_some] <;> rfl)) | (simp [*, errW_none, errW_some] <;> rfl), by repeat (first | (with_reducible first | exact HB.out | apply below_alloc | apply pw_below_drewN | apply below_drew1 | refine below_set ?_ GE280.out | refine below_set ?_ GE283.out) | exact HB.out)⟩
                    · replace c68 := Bool.eq_false_iff.mpr c68
                      subst c68
                      have H1 : (some false) = some r := by rw [if_neg (show ¬ (false = true) by decide)] at H; exact H
                      clear H
                      have H := H1
                      clear H1
                      obtain rfl := Option.some.inj H
                      have hnb76 := NB280_283.out
                      have hnc76 := NB283_280.out
                      have hcz77_0 : wc.cell? ⟨gb280, 0, none⟩ = some (.int .i64 a0_0) := (blk_cell BK280.out 0).trans rfl
                      have hcz77_1 : wc.cell? ⟨gb280, 1, none⟩ = some (.int .i64 a0_1) := (blk_cell BK280.out 1).trans rfl
                      have hcz77_2 : wc.cell? ⟨gb280, 2, none⟩ = some (.int .i64 a0_2) := (blk_cell BK280.out 2).trans rfl
                      have hcz77_3 : wc.cell? ⟨gb280, 3, none⟩ = some (.int .i64 a0_3) := (blk_cell BK280.out 3).trans rfl
                      have hcz77_4 : wc.cell? ⟨gb280, 4, none⟩ = some (.bool a0_4) := (blk_cell BK280.out 4).trans rfl
                      have hcz77_5 : wc.cell? ⟨gb280, 5, none⟩ = some (.int .i64 a0_5) := (blk_cell BK280.out 5).trans rfl
                      have hcz77_6 : wc.cell? ⟨gb280, 6, none⟩ = some (.int .i64 a0_6) := (blk_cell BK280.out 6).trans rfl
                      have hcz77_7 : wc.cell? ⟨gb280, 7, none⟩ = some (.int .i64 a0_7) := (blk_cell BK280.out 7).trans rfl
                      have hcz77_8 : wc.cell? ⟨gb280, 8, none⟩ = some (.int .i64 a0_8) := (blk_cell BK280.out 8).trans rfl
                      have hcz77_9 : wc.cell? ⟨gb280, 9, none⟩ = some (.int .i64 a0_9) := (blk_cell BK280.out 9).trans rfl
                      have hcz77_10 : wc.cell? ⟨gb280, 10, none⟩ = some (.int .i64 a0_10) := (blk_cell BK280.out 10).trans rfl
                      have hcz77_11 : wc.cell? ⟨gb280, 11, none⟩ = some (.int .i64 a0_11) := (blk_cell BK280.out 11).trans rfl
                      have hcz77_12 : wc.cell? ⟨gb280, 12, none⟩ = some (.int .i64 a0_12) := (blk_cell BK280.out 12).trans rfl
                      have hcz77_13 : wc.cell? ⟨gb280, 13, none⟩ = some (.int .i64 a0_13) := (blk_cell BK280.out 13).trans rfl
                      have hfz77_0 := blk_frozen BK280.out 0
                      have hfz77_1 := blk_frozen BK280.out 1
                      have hfz77_2 := blk_frozen BK280.out 2
                      have hfz77_3 := blk_frozen BK280.out 3
                      have hfz77_4 := blk_frozen BK280.out 4
                      have hfz77_5 := blk_frozen BK280.out 5
                      have hfz77_6 := blk_frozen BK280.out 6
                      have hfz77_7 := blk_frozen BK280.out 7
                      have hfz77_8 := blk_frozen BK280.out 8
                      have hfz77_9 := blk_frozen BK280.out 9
                      have hfz77_10 := blk_frozen BK280.out 10
                      have hfz77_11 := blk_frozen BK280.out 11
                      have hfz77_12 := blk_frozen BK280.out 12
                      have hfz77_13 := blk_frozen BK280.out 13
                      go_wp2_with (first | ((with_reducible refine gate_callee (f := 42) rfl ?_); refine goesL_ (some 86) rfl rfl Try.func42 (by kernel_rfl) rfl #[.int .i64 a0_9, .int .i64 1, .int .i64 20] rfl (by (try simp only [List.map_toArray, List.map_cons, List.map_nil]); first | done | rfl | (simp only [List.length_drop, List.length_take]; rfl)) ?_; (with_reducible refine (impl_in.calls a0_9 1 20 true _ A62.out).mono ?_); rintro e w' ⟨rfl, ⟨nd, rfl⟩⟩; refine ⟨_, rfl, ?_⟩) | (go_at_call 42; (with_reducible refine (impl_in.calls a0_10 0 10 true _ A64.out).mono ?_); rintro e w' ⟨rfl, ⟨nd, rfl⟩⟩) | (go_at_call 42; (with_reducible refine (impl_in.calls a0_7 ji66 a0_10 false _ A67.out).mono ?_); rintro e w' ⟨rfl, ⟨nd, rfl⟩⟩))
                      go_ret
                      exact ⟨by first | rfl | (simp [errW_none, errW_some] <;> rfl) | (simp only [← hji66]; first | rfl | (simp [errW_none, errW_some] <;> rfl)) | (simp [*, errW_none, errW_some] <;> rfl), by repeat (first | (with_reducible first | exact HB.out | apply below_alloc | apply pw_below_drewN | apply below_drew1 | refine below_set ?_ GE280.out | refine below_set ?_ GE283.out) | exact HB.out)⟩
                  · replace c65 := Bool.eq_false_iff.mpr c65
                    subst c65
                    have H1 : (some false) = some r := by rw [if_neg (show ¬ (false = true) by decide)] at H; exact H
                    clear H
                    have H := H1
                    clear H1
                    obtain rfl := Option.some.inj H
                    have hnb78 := NB280_283.out
                    have hnc78 := NB283_280.out
                    have hcz79_0 : wc.cell? ⟨gb280, 0, none⟩ = some (.int .i64 a0_0) := (blk_cell BK280.out 0).trans rfl
                    have hcz79_1 : wc.cell? ⟨gb280, 1, none⟩ = some (.int .i64 a0_1) := (blk_cell BK280.out 1).trans rfl
                    have hcz79_2 : wc.cell? ⟨gb280, 2, none⟩ = some (.int .i64 a0_2) := (blk_cell BK280.out 2).trans rfl
                    have hcz79_3 : wc.cell? ⟨gb280, 3, none⟩ = some (.int .i64 a0_3) := (blk_cell BK280.out 3).trans rfl
                    have hcz79_4 : wc.cell? ⟨gb280, 4, none⟩ = some (.bool a0_4) := (blk_cell BK280.out 4).trans rfl
                    have hcz79_5 : wc.cell? ⟨gb280, 5, none⟩ = some (.int .i64 a0_5) := (blk_cell BK280.out 5).trans rfl
                    have hcz79_6 : wc.cell? ⟨gb280, 6, none⟩ = some (.int .i64 a0_6) := (blk_cell BK280.out 6).trans rfl
                    have hcz79_7 : wc.cell? ⟨gb280, 7, none⟩ = some (.int .i64 a0_7) := (blk_cell BK280.out 7).trans rfl
                    have hcz79_8 : wc.cell? ⟨gb280, 8, none⟩ = some (.int .i64 a0_8) := (blk_cell BK280.out 8).trans rfl
                    have hcz79_9 : wc.cell? ⟨gb280, 9, none⟩ = some (.int .i64 a0_9) := (blk_cell BK280.out 9).trans rfl
                    have hcz79_10 : wc.cell? ⟨gb280, 10, none⟩ = some (.int .i64 a0_10) := (blk_cell BK280.out 10).trans rfl
                    have hcz79_11 : wc.cell? ⟨gb280, 11, none⟩ = some (.int .i64 a0_11) := (blk_cell BK280.out 11).trans rfl
                    have hcz79_12 : wc.cell? ⟨gb280, 12, none⟩ = some (.int .i64 a0_12) := (blk_cell BK280.out 12).trans rfl
                    have hcz79_13 : wc.cell? ⟨gb280, 13, none⟩ = some (.int .i64 a0_13) := (blk_cell BK280.out 13).trans rfl
                    have hfz79_0 := blk_frozen BK280.out 0
                    have hfz79_1 := blk_frozen BK280.out 1
                    have hfz79_2 := blk_frozen BK280.out 2
                    have hfz79_3 := blk_frozen BK280.out 3
                    have hfz79_4 := blk_frozen BK280.out 4
                    have hfz79_5 := blk_frozen BK280.out 5
                    have hfz79_6 := blk_frozen BK280.out 6
                    have hfz79_7 := blk_frozen BK280.out 7
                    have hfz79_8 := blk_frozen BK280.out 8
                    have hfz79_9 := blk_frozen BK280.out 9
                    have hfz79_10 := blk_frozen BK280.out 10
                    have hfz79_11 := blk_frozen BK280.out 11
                    have hfz79_12 := blk_frozen BK280.out 12
                    have hfz79_13 := blk_frozen BK280.out 13
                    go_wp2_with (first | ((with_reducible refine gate_callee (f := 42) rfl ?_); refine goesL_ (some 86) rfl rfl Try.func42 (by kernel_rfl) rfl #[.int .i64 a0_9, .int .i64 1, .int .i64 20] rfl (by (try simp only [List.map_toArray, List.map_cons, List.map_nil]); first | done | rfl | (simp only [List.length_drop, List.length_take]; rfl)) ?_; (with_reducible refine (impl_in.calls a0_9 1 20 true _ A62.out).mono ?_); rintro e w' ⟨rfl, ⟨nd, rfl⟩⟩; refine ⟨_, rfl, ?_⟩) | (go_at_call 42; (with_reducible refine (impl_in.calls a0_10 0 10 false _ A64.out).mono ?_); rintro e w' ⟨rfl, ⟨nd, rfl⟩⟩))
                    go_ret
                    exact ⟨by first | rfl | (simp [errW_none, errW_some] <;> rfl) | (simp [*, errW_none, errW_some] <;> rfl), by repeat (first | (with_reducible first | exact HB.out | apply below_alloc | apply pw_below_drewN | apply below_drew1 | refine below_set ?_ GE280.out | refine below_set ?_ GE283.out) | exact HB.out)⟩
                · replace c63 := Bool.eq_false_iff.mpr c63
                  subst c63
                  have H1 : (some false) = some r := by rw [if_neg (show ¬ (false = true) by decide)] at H; exact H
                  clear H
                  have H := H1
                  clear H1
                  obtain rfl := Option.some.inj H
                  have hnb80 := NB280_283.out
                  have hnc80 := NB283_280.out
                  have hcz81_0 : wc.cell? ⟨gb280, 0, none⟩ = some (.int .i64 a0_0) := (blk_cell BK280.out 0).trans rfl
                  have hcz81_1 : wc.cell? ⟨gb280, 1, none⟩ = some (.int .i64 a0_1) := (blk_cell BK280.out 1).trans rfl
                  have hcz81_2 : wc.cell? ⟨gb280, 2, none⟩ = some (.int .i64 a0_2) := (blk_cell BK280.out 2).trans rfl
                  have hcz81_3 : wc.cell? ⟨gb280, 3, none⟩ = some (.int .i64 a0_3) := (blk_cell BK280.out 3).trans rfl
                  have hcz81_4 : wc.cell? ⟨gb280, 4, none⟩ = some (.bool a0_4) := (blk_cell BK280.out 4).trans rfl
                  have hcz81_5 : wc.cell? ⟨gb280, 5, none⟩ = some (.int .i64 a0_5) := (blk_cell BK280.out 5).trans rfl
                  have hcz81_6 : wc.cell? ⟨gb280, 6, none⟩ = some (.int .i64 a0_6) := (blk_cell BK280.out 6).trans rfl
                  have hcz81_7 : wc.cell? ⟨gb280, 7, none⟩ = some (.int .i64 a0_7) := (blk_cell BK280.out 7).trans rfl
                  have hcz81_8 : wc.cell? ⟨gb280, 8, none⟩ = some (.int .i64 a0_8) := (blk_cell BK280.out 8).trans rfl
                  have hcz81_9 : wc.cell? ⟨gb280, 9, none⟩ = some (.int .i64 a0_9) := (blk_cell BK280.out 9).trans rfl
                  have hcz81_10 : wc.cell? ⟨gb280, 10, none⟩ = some (.int .i64 a0_10) := (blk_cell BK280.out 10).trans rfl
                  have hcz81_11 : wc.cell? ⟨gb280, 11, none⟩ = some (.int .i64 a0_11) := (blk_cell BK280.out 11).trans rfl
                  have hcz81_12 : wc.cell? ⟨gb280, 12, none⟩ = some (.int .i64 a0_12) := (blk_cell BK280.out 12).trans rfl
                  have hcz81_13 : wc.cell? ⟨gb280, 13, none⟩ = some (.int .i64 a0_13) := (blk_cell BK280.out 13).trans rfl
                  have hfz81_0 := blk_frozen BK280.out 0
                  have hfz81_1 := blk_frozen BK280.out 1
                  have hfz81_2 := blk_frozen BK280.out 2
                  have hfz81_3 := blk_frozen BK280.out 3
                  have hfz81_4 := blk_frozen BK280.out 4
                  have hfz81_5 := blk_frozen BK280.out 5
                  have hfz81_6 := blk_frozen BK280.out 6
                  have hfz81_7 := blk_frozen BK280.out 7
                  have hfz81_8 := blk_frozen BK280.out 8
                  have hfz81_9 := blk_frozen BK280.out 9
                  have hfz81_10 := blk_frozen BK280.out 10
                  have hfz81_11 := blk_frozen BK280.out 11
                  have hfz81_12 := blk_frozen BK280.out 12
                  have hfz81_13 := blk_frozen BK280.out 13
                  go_wp2_with (first | ((with_reducible refine gate_callee (f := 42) rfl ?_); refine goesL_ (some 86) rfl rfl Try.func42 (by kernel_rfl) rfl #[.int .i64 a0_9, .int .i64 1, .int .i64 20] rfl (by (try simp only [List.map_toArray, List.map_cons, List.map_nil]); first | done | rfl | (simp only [List.length_drop, List.length_take]; rfl)) ?_; (with_reducible refine (impl_in.calls a0_9 1 20 false _ A62.out).mono ?_); rintro e w' ⟨rfl, ⟨nd, rfl⟩⟩; refine ⟨_, rfl, ?_⟩))
                  go_ret
                  exact ⟨by first | rfl | (simp [errW_none, errW_some] <;> rfl) | (simp [*, errW_none, errW_some] <;> rfl), by repeat (first | (with_reducible first | exact HB.out | apply below_alloc | apply pw_below_drewN | apply below_drew1 | refine below_set ?_ GE280.out | refine below_set ?_ GE283.out) | exact HB.out)⟩
          · rw [if_neg c49] at H
            have c49b0 : (a0_1 == 2) = false := beq_eq_false_iff_ne.mpr c49
            have c49b1 : (a0_1 != 2) = true := bne_iff_ne.mpr c49
            by_cases c82 : a0_1 = 3
            · rw [if_pos c82] at H
              have c82b0 : (a0_1 == 3) = true := beq_iff_eq.mpr c82
              have c82b1 : (a0_1 != 3) = false := bne_eq_false_iff_eq.mpr c82
              clear c82
              have HC83 := Aside0.mk H
              clear H
              have hcz84_0 : wc.cell? ⟨gb280, 0, none⟩ = some (.int .i64 a0_0) := (blk_cell BK280.out 0).trans rfl
              have hcz84_1 : wc.cell? ⟨gb280, 1, none⟩ = some (.int .i64 a0_1) := (blk_cell BK280.out 1).trans rfl
              have hcz84_2 : wc.cell? ⟨gb280, 2, none⟩ = some (.int .i64 a0_2) := (blk_cell BK280.out 2).trans rfl
              have hcz84_3 : wc.cell? ⟨gb280, 3, none⟩ = some (.int .i64 a0_3) := (blk_cell BK280.out 3).trans rfl
              have hcz84_4 : wc.cell? ⟨gb280, 4, none⟩ = some (.bool a0_4) := (blk_cell BK280.out 4).trans rfl
              have hcz84_5 : wc.cell? ⟨gb280, 5, none⟩ = some (.int .i64 a0_5) := (blk_cell BK280.out 5).trans rfl
              have hcz84_6 : wc.cell? ⟨gb280, 6, none⟩ = some (.int .i64 a0_6) := (blk_cell BK280.out 6).trans rfl
              have hcz84_7 : wc.cell? ⟨gb280, 7, none⟩ = some (.int .i64 a0_7) := (blk_cell BK280.out 7).trans rfl
              have hcz84_8 : wc.cell? ⟨gb280, 8, none⟩ = some (.int .i64 a0_8) := (blk_cell BK280.out 8).trans rfl
              have hcz84_9 : wc.cell? ⟨gb280, 9, none⟩ = some (.int .i64 a0_9) := (blk_cell BK280.out 9).trans rfl
              have hcz84_10 : wc.cell? ⟨gb280, 10, none⟩ = some (.int .i64 a0_10) := (blk_cell BK280.out 10).trans rfl
              have hcz84_11 : wc.cell? ⟨gb280, 11, none⟩ = some (.int .i64 a0_11) := (blk_cell BK280.out 11).trans rfl
              have hcz84_12 : wc.cell? ⟨gb280, 12, none⟩ = some (.int .i64 a0_12) := (blk_cell BK280.out 12).trans rfl
              have hcz84_13 : wc.cell? ⟨gb280, 13, none⟩ = some (.int .i64 a0_13) := (blk_cell BK280.out 13).trans rfl
              have hfz84_0 := blk_frozen BK280.out 0
              have hfz84_1 := blk_frozen BK280.out 1
              have hfz84_2 := blk_frozen BK280.out 2
              have hfz84_3 := blk_frozen BK280.out 3
              have hfz84_4 := blk_frozen BK280.out 4
              have hfz84_5 := blk_frozen BK280.out 5
              have hfz84_6 := blk_frozen BK280.out 6
              have hfz84_7 := blk_frozen BK280.out 7
              have hfz84_8 := blk_frozen BK280.out 8
              have hfz84_9 := blk_frozen BK280.out 9
              have hfz84_10 := blk_frozen BK280.out 10
              have hfz84_11 := blk_frozen BK280.out 11
              have hfz84_12 := blk_frozen BK280.out 12
              have hfz84_13 := blk_frozen BK280.out 13
              go_upto_region 13 with (first | ((with_reducible refine gate_dst (N := 3) rfl ?_); (try (refine gate_guard (by rfl) ?_; dsimp only)); refine box_event ?hg (N := 3) ?hd (cs := #[.int .i64 0, .int .i64 0, .int .i64 0, .int .i64 0, .bool false, .int .i64 0, .int .i64 0, .int .i64 0, .int .i64 0, .int .i64 0, .int .i64 0, .int .i64 0, .int .i64 0, .int .i64 0]) (t := 48) ?hr ?_; (case hd => rfl); (case hg => rfl); (case hr => first | (go_simp; done) | (go_simp; rfl)); intro gb283 hg w85 hbox hb; have n0_ := Aside0.mk (blk_below (g := gb280) (o := .cells #[.int .i64 a0_0, .int .i64 a0_1, .int .i64 a0_2, .int .i64 a0_3, .bool a0_4, .int .i64 a0_5, .int .i64 a0_6, .int .i64 a0_7, .int .i64 a0_8, .int .i64 a0_9, .int .i64 a0_10, .int .i64 a0_11, .int .i64 a0_12, .int .i64 a0_13] 48 (0, 0)) (by (with_reducible repeat (first | refine blk_drewN ?_ _ | refine blk_drew ?_ | refine blk_alloc ?_ _)); exact BK280.out) hb); have n1_ := Aside0.mk (below_step (by repeat (first | (with_reducible first | exact HB.out | apply below_alloc | apply pw_below_drewN | apply below_drew1 | refine below_set ?_ GE280.out) | exact HB.out)) hb); have n2_ := Aside0.mk (hbox); have n3_ := Aside0.mk ((by rw [hg]; exact (below_size (by repeat (first | (with_reducible first | exact HB.out | apply below_alloc | apply pw_below_drewN | apply below_drew1 | refine below_set ?_ GE280.out) | exact HB.out))) : w.heap.size ≤ gb283)); have n4_ := Aside0.mk ((by rw [hg]; exact (below_size (by repeat (first | (with_reducible first | exact HB.out | apply below_alloc | apply pw_below_drewN | apply below_drew1 | refine below_set ?_ GE280.out) | exact HB.out))) : w.heap.size ≤ gb283)); have n5_ := Aside0.mk ((by rw [hg]; exact Nat.ne_of_lt (blk_lt (g := gb280) (o := .cells #[.int .i64 a0_0, .int .i64 a0_1, .int .i64 a0_2, .int .i64 a0_3, .bool a0_4, .int .i64 a0_5, .int .i64 a0_6, .int .i64 a0_7, .int .i64 a0_8, .int .i64 a0_9, .int .i64 a0_10, .int .i64 a0_11, .int .i64 a0_12, .int .i64 a0_13] 48 (0, 0)) (by (with_reducible repeat (first | refine blk_drewN ?_ _ | refine blk_drew ?_ | refine blk_alloc ?_ _)); exact BK280.out)) : gb280 ≠ gb283)); have n6_ := Aside0.mk ((by rw [hg]; exact Nat.ne_of_gt (blk_lt (g := gb280) (o := .cells #[.int .i64 a0_0, .int .i64 a0_1, .int .i64 a0_2, .int .i64 a0_3, .bool a0_4, .int .i64 a0_5, .int .i64 a0_6, .int .i64 a0_7, .int .i64 a0_8, .int .i64 a0_9, .int .i64 a0_10, .int .i64 a0_11, .int .i64 a0_12, .int .i64 a0_13] 48 (0, 0)) (by (with_reducible repeat (first | refine blk_drewN ?_ _ | refine blk_drew ?_ | refine blk_alloc ?_ _)); exact BK280.out)) : gb283 ≠ gb280)); clear BK280; clear HB; have BK280 := n0_; have HB := n1_; have BK283 := n2_; have GW283 := n3_; have GE283 := n4_; have NB280_283 := n5_; have NB283_280 := n6_; clear n0_ n1_ n2_ n3_ n4_ n5_ n6_; clear hb hbox hg; have hnb86 := NB283_280.out; have hnc86 := NB280_283.out; have hcz87_0 : w85.cell? ⟨gb283, 0, none⟩ = some (.int .i64 0) := (blk_cell BK283.out 0).trans rfl; have hcz87_1 : w85.cell? ⟨gb283, 1, none⟩ = some (.int .i64 0) := (blk_cell BK283.out 1).trans rfl; have hcz87_2 : w85.cell? ⟨gb283, 2, none⟩ = some (.int .i64 0) := (blk_cell BK283.out 2).trans rfl; have hcz87_3 : w85.cell? ⟨gb283, 3, none⟩ = some (.int .i64 0) := (blk_cell BK283.out 3).trans rfl; have hcz87_4 : w85.cell? ⟨gb283, 4, none⟩ = some (.bool false) := (blk_cell BK283.out 4).trans rfl; have hcz87_5 : w85.cell? ⟨gb283, 5, none⟩ = some (.int .i64 0) := (blk_cell BK283.out 5).trans rfl; have hcz87_6 : w85.cell? ⟨gb283, 6, none⟩ = some (.int .i64 0) := (blk_cell BK283.out 6).trans rfl; have hcz87_7 : w85.cell? ⟨gb283, 7, none⟩ = some (.int .i64 0) := (blk_cell BK283.out 7).trans rfl; have hcz87_8 : w85.cell? ⟨gb283, 8, none⟩ = some (.int .i64 0) := (blk_cell BK283.out 8).trans rfl; have hcz87_9 : w85.cell? ⟨gb283, 9, none⟩ = some (.int .i64 0) := (blk_cell BK283.out 9).trans rfl; have hcz87_10 : w85.cell? ⟨gb283, 10, none⟩ = some (.int .i64 0) := (blk_cell BK283.out 10).trans rfl; have hcz87_11 : w85.cell? ⟨gb283, 11, none⟩ = some (.int .i64 0) := (blk_cell BK283.out 11).trans rfl; have hcz87_12 : w85.cell? ⟨gb283, 12, none⟩ = some (.int .i64 0) := (blk_cell BK283.out 12).trans rfl; have hcz87_13 : w85.cell? ⟨gb283, 13, none⟩ = some (.int .i64 0) := (blk_cell BK283.out 13).trans rfl; have hfz87_0 := blk_frozen BK283.out 0; have hfz87_1 := blk_frozen BK283.out 1; have hfz87_2 := blk_frozen BK283.out 2; have hfz87_3 := blk_frozen BK283.out 3; have hfz87_4 := blk_frozen BK283.out 4; have hfz87_5 := blk_frozen BK283.out 5; have hfz87_6 := blk_frozen BK283.out 6; have hfz87_7 := blk_frozen BK283.out 7; have hfz87_8 := blk_frozen BK283.out 8; have hfz87_9 := blk_frozen BK283.out 9; have hfz87_10 := blk_frozen BK283.out 10; have hfz87_11 := blk_frozen BK283.out 11; have hfz87_12 := blk_frozen BK283.out 12; have hfz87_13 := blk_frozen BK283.out 13; have hcz88_0 : w85.cell? ⟨gb280, 0, none⟩ = some (.int .i64 a0_0) := (blk_cell BK280.out 0).trans rfl; have hcz88_1 : w85.cell? ⟨gb280, 1, none⟩ = some (.int .i64 a0_1) := (blk_cell BK280.out 1).trans rfl; have hcz88_2 : w85.cell? ⟨gb280, 2, none⟩ = some (.int .i64 a0_2) := (blk_cell BK280.out 2).trans rfl; have hcz88_3 : w85.cell? ⟨gb280, 3, none⟩ = some (.int .i64 a0_3) := (blk_cell BK280.out 3).trans rfl; have hcz88_4 : w85.cell? ⟨gb280, 4, none⟩ = some (.bool a0_4) := (blk_cell BK280.out 4).trans rfl; have hcz88_5 : w85.cell? ⟨gb280, 5, none⟩ = some (.int .i64 a0_5) := (blk_cell BK280.out 5).trans rfl; have hcz88_6 : w85.cell? ⟨gb280, 6, none⟩ = some (.int .i64 a0_6) := (blk_cell BK280.out 6).trans rfl; have hcz88_7 : w85.cell? ⟨gb280, 7, none⟩ = some (.int .i64 a0_7) := (blk_cell BK280.out 7).trans rfl; have hcz88_8 : w85.cell? ⟨gb280, 8, none⟩ = some (.int .i64 a0_8) := (blk_cell BK280.out 8).trans rfl; have hcz88_9 : w85.cell? ⟨gb280, 9, none⟩ = some (.int .i64 a0_9) := (blk_cell BK280.out 9).trans rfl; have hcz88_10 : w85.cell? ⟨gb280, 10, none⟩ = some (.int .i64 a0_10) := (blk_cell BK280.out 10).trans rfl; have hcz88_11 : w85.cell? ⟨gb280, 11, none⟩ = some (.int .i64 a0_11) := (blk_cell BK280.out 11).trans rfl; have hcz88_12 : w85.cell? ⟨gb280, 12, none⟩ = some (.int .i64 a0_12) := (blk_cell BK280.out 12).trans rfl; have hcz88_13 : w85.cell? ⟨gb280, 13, none⟩ = some (.int .i64 a0_13) := (blk_cell BK280.out 13).trans rfl; have hfz88_0 := blk_frozen BK280.out 0; have hfz88_1 := blk_frozen BK280.out 1; have hfz88_2 := blk_frozen BK280.out 2; have hfz88_3 := blk_frozen BK280.out 3; have hfz88_4 := blk_frozen BK280.out 4; have hfz88_5 := blk_frozen BK280.out 5; have hfz88_6 := blk_frozen BK280.out 6; have hfz88_7 := blk_frozen BK280.out 7; have hfz88_8 := blk_frozen BK280.out 8; have hfz88_9 := blk_frozen BK280.out 9; have hfz88_10 := blk_frozen BK280.out 10; have hfz88_11 := blk_frozen BK280.out 11; have hfz88_12 := blk_frozen BK280.out 12; have hfz88_13 := blk_frozen BK280.out 13))
              (try simp only [Act.put, List.setIfInBounds_toArray, List.set_cons_zero, List.set_cons_succ])
              go_cut [] (fun wc => ∃ (kq : Nat) (x284012_82 : Int) (x284013_82 : Int), Aside0 (impl_TaskOk0.j3 kq a0_0 a0_1 a0_2 a0_3 a0_4 a0_5 a0_6 a0_7 a0_8 a0_9 a0_10 a0_11 a0_12 a0_13 a0_0 a0_1 a0_2 a0_3 a0_4 0 0 0 0 0 0 0 x284012_82 x284013_82 = some r) ∧ Aside0 (kq ≤ kj1) ∧ Aside0 (wc.heap[gb280]? = some (.cells #[.int .i64 a0_0, .int .i64 a0_1, .int .i64 a0_2, .int .i64 a0_3, .bool a0_4, .int .i64 a0_5, .int .i64 a0_6, .int .i64 a0_7, .int .i64 a0_8, .int .i64 a0_9, .int .i64 a0_10, .int .i64 a0_11, .int .i64 a0_12, .int .i64 a0_13] 48 (0, 0))) ∧ Aside0 (wc.heap[gb283]? = some (.cells #[.int .i64 a0_0, .int .i64 a0_1, .int .i64 a0_2, .int .i64 a0_3, .bool a0_4, .int .i64 0, .int .i64 0, .int .i64 0, .int .i64 0, .int .i64 0, .int .i64 0, .int .i64 0, .int .i64 x284012_82, .int .i64 x284013_82] 48 (0, 0))) ∧ Aside0 (Below w.heap.size w wc))
              case first =>
                have H := HC83.out
                clear HC83
                have H' := Aside0.mk H
                clear H
                try go_wp2
                have n0_ : Aside0 (((((((((((((((w85.setCell ⟨gb283, 0, none⟩ (.int .i64 a0_0)).setCell ⟨gb283, 1, none⟩ (.int .i64 a0_1)).setCell ⟨gb283, 2, none⟩ (.int .i64 a0_2)).setCell ⟨gb283, 3, none⟩ (.int .i64 a0_3)).setCell ⟨gb283, 4, none⟩ (.bool a0_4)).setCell ⟨gb283, 5, none⟩ (.int .i64 0)).setCell ⟨gb283, 6, none⟩ (.int .i64 0)).setCell ⟨gb283, 7, none⟩ (.int .i64 0)).setCell ⟨gb283, 8, none⟩ (.int .i64 0)).setCell ⟨gb283, 9, none⟩ (.int .i64 0)).setCell ⟨gb283, 10, none⟩ (.int .i64 0)).setCell ⟨gb283, 11, none⟩ (.int .i64 0)).setCell ⟨gb283, 12, none⟩ (.int .i64 0)).setCell ⟨gb283, 13, none⟩ (.int .i64 0)).heap[gb280]? = some (.cells #[.int .i64 a0_0, .int .i64 a0_1, .int .i64 a0_2, .int .i64 a0_3, .bool a0_4, .int .i64 a0_5, .int .i64 a0_6, .int .i64 a0_7, .int .i64 a0_8, .int .i64 a0_9, .int .i64 a0_10, .int .i64 a0_11, .int .i64 a0_12, .int .i64 a0_13] 48 (0, 0))) := ⟨by (with_reducible repeat (first | refine blk_drewN ?_ _ | refine blk_drew ?_ | refine blk_alloc ?_ _)); refine blk_far ?_ NB280_283.out _; (with_reducible repeat (first | refine blk_drewN ?_ _ | refine blk_drew ?_ | refine blk_alloc ?_ _)); refine blk_far ?_ NB280_283.out _; (with_reducible repeat (first | refine blk_drewN ?_ _ | refine blk_drew ?_ | refine blk_alloc ?_ _)); refine blk_far ?_ NB280_283.out _; (with_reducible repeat (first | refine blk_drewN ?_ _ | refine blk_drew ?_ | refine blk_alloc ?_ _)); refine blk_far ?_ NB280_283.out _; (with_reducible repeat (first | refine blk_drewN ?_ _ | refine blk_drew ?_ | refine blk_alloc ?_ _)); refine blk_far ?_ NB280_283.out _; (with_reducible repeat (first | refine blk_drewN ?_ _ | refine blk_drew ?_ | refine blk_alloc ?_ _)); refine blk_far ?_ NB280_283.out _; (with_reducible repeat (first | refine blk_drewN ?_ _ | refine blk_drew ?_ | refine blk_alloc ?_ _)); refine blk_far ?_ NB280_283.out _; (with_reducible repeat (first | refine blk_drewN ?_ _ | refine blk_drew ?_ | refine blk_alloc ?_ _)); refine blk_far ?_ NB280_283.out _; (with_reducible repeat (first | refine blk_drewN ?_ _ | refine blk_drew ?_ | refine blk_alloc ?_ _)); refine blk_far ?_ NB280_283.out _; (with_reducible repeat (first | refine blk_drewN ?_ _ | refine blk_drew ?_ | refine blk_alloc ?_ _)); refine blk_far ?_ NB280_283.out _; (with_reducible repeat (first | refine blk_drewN ?_ _ | refine blk_drew ?_ | refine blk_alloc ?_ _)); refine blk_far ?_ NB280_283.out _; (with_reducible repeat (first | refine blk_drewN ?_ _ | refine blk_drew ?_ | refine blk_alloc ?_ _)); refine blk_far ?_ NB280_283.out _; (with_reducible repeat (first | refine blk_drewN ?_ _ | refine blk_drew ?_ | refine blk_alloc ?_ _)); refine blk_far ?_ NB280_283.out _; (with_reducible repeat (first | refine blk_drewN ?_ _ | refine blk_drew ?_ | refine blk_alloc ?_ _)); refine blk_far ?_ NB280_283.out _; (with_reducible repeat (first | refine blk_drewN ?_ _ | refine blk_drew ?_ | refine blk_alloc ?_ _)); exact BK280.out⟩
                have n1_ : Aside0 (((((((((((((((w85.setCell ⟨gb283, 0, none⟩ (.int .i64 a0_0)).setCell ⟨gb283, 1, none⟩ (.int .i64 a0_1)).setCell ⟨gb283, 2, none⟩ (.int .i64 a0_2)).setCell ⟨gb283, 3, none⟩ (.int .i64 a0_3)).setCell ⟨gb283, 4, none⟩ (.bool a0_4)).setCell ⟨gb283, 5, none⟩ (.int .i64 0)).setCell ⟨gb283, 6, none⟩ (.int .i64 0)).setCell ⟨gb283, 7, none⟩ (.int .i64 0)).setCell ⟨gb283, 8, none⟩ (.int .i64 0)).setCell ⟨gb283, 9, none⟩ (.int .i64 0)).setCell ⟨gb283, 10, none⟩ (.int .i64 0)).setCell ⟨gb283, 11, none⟩ (.int .i64 0)).setCell ⟨gb283, 12, none⟩ (.int .i64 0)).setCell ⟨gb283, 13, none⟩ (.int .i64 0)).heap[gb283]? = some (.cells #[.int .i64 a0_0, .int .i64 a0_1, .int .i64 a0_2, .int .i64 a0_3, .bool a0_4, .int .i64 0, .int .i64 0, .int .i64 0, .int .i64 0, .int .i64 0, .int .i64 0, .int .i64 0, .int .i64 0, .int .i64 0] 48 (0, 0))) := ⟨by (with_reducible repeat (first | refine blk_drewN ?_ _ | refine blk_drew ?_ | refine blk_alloc ?_ _)); refine blk_put (cs := #[.int .i64 a0_0, .int .i64 a0_1, .int .i64 a0_2, .int .i64 a0_3, .bool a0_4, .int .i64 0, .int .i64 0, .int .i64 0, .int .i64 0, .int .i64 0, .int .i64 0, .int .i64 0, .int .i64 0, .int .i64 0]) ?_ 13 _ rfl; (with_reducible repeat (first | refine blk_drewN ?_ _ | refine blk_drew ?_ | refine blk_alloc ?_ _)); refine blk_put (cs := #[.int .i64 a0_0, .int .i64 a0_1, .int .i64 a0_2, .int .i64 a0_3, .bool a0_4, .int .i64 0, .int .i64 0, .int .i64 0, .int .i64 0, .int .i64 0, .int .i64 0, .int .i64 0, .int .i64 0, .int .i64 0]) ?_ 12 _ rfl; (with_reducible repeat (first | refine blk_drewN ?_ _ | refine blk_drew ?_ | refine blk_alloc ?_ _)); refine blk_put (cs := #[.int .i64 a0_0, .int .i64 a0_1, .int .i64 a0_2, .int .i64 a0_3, .bool a0_4, .int .i64 0, .int .i64 0, .int .i64 0, .int .i64 0, .int .i64 0, .int .i64 0, .int .i64 0, .int .i64 0, .int .i64 0]) ?_ 11 _ rfl; (with_reducible repeat (first | refine blk_drewN ?_ _ | refine blk_drew ?_ | refine blk_alloc ?_ _)); refine blk_put (cs := #[.int .i64 a0_0, .int .i64 a0_1, .int .i64 a0_2, .int .i64 a0_3, .bool a0_4, .int .i64 0, .int .i64 0, .int .i64 0, .int .i64 0, .int .i64 0, .int .i64 0, .int .i64 0, .int .i64 0, .int .i64 0]) ?_ 10 _ rfl; (with_reducible repeat (first | refine blk_drewN ?_ _ | refine blk_drew ?_ | refine blk_alloc ?_ _)); refine blk_put (cs := #[.int .i64 a0_0, .int .i64 a0_1, .int .i64 a0_2, .int .i64 a0_3, .bool a0_4, .int .i64 0, .int .i64 0, .int .i64 0, .int .i64 0, .int .i64 0, .int .i64 0, .int .i64 0, .int .i64 0, .int .i64 0]) ?_ 9 _ rfl; (with_reducible repeat (first | refine blk_drewN ?_ _ | refine blk_drew ?_ | refine blk_alloc ?_ _)); refine blk_put (cs := #[.int .i64 a0_0, .int .i64 a0_1, .int .i64 a0_2, .int .i64 a0_3, .bool a0_4, .int .i64 0, .int .i64 0, .int .i64 0, .int .i64 0, .int .i64 0, .int .i64 0, .int .i64 0, .int .i64 0, .int .i64 0]) ?_ 8 _ rfl; (with_reducible repeat (first | refine blk_drewN ?_ _ | refine blk_drew ?_ | refine blk_alloc ?_ _)); refine blk_put (cs := #[.int .i64 a0_0, .int .i64 a0_1, .int .i64 a0_2, .int .i64 a0_3, .bool a0_4, .int .i64 0, .int .i64 0, .int .i64 0, .int .i64 0, .int .i64 0, .int .i64 0, .int .i64 0, .int .i64 0, .int .i64 0]) ?_ 7 _ rfl; (with_reducible repeat (first | refine blk_drewN ?_ _ | refine blk_drew ?_ | refine blk_alloc ?_ _)); refine blk_put (cs := #[.int .i64 a0_0, .int .i64 a0_1, .int .i64 a0_2, .int .i64 a0_3, .bool a0_4, .int .i64 0, .int .i64 0, .int .i64 0, .int .i64 0, .int .i64 0, .int .i64 0, .int .i64 0, .int .i64 0, .int .i64 0]) ?_ 6 _ rfl; (with_reducible repeat (first | refine blk_drewN ?_ _ | refine blk_drew ?_ | refine blk_alloc ?_ _)); refine blk_put (cs := #[.int .i64 a0_0, .int .i64 a0_1, .int .i64 a0_2, .int .i64 a0_3, .bool a0_4, .int .i64 0, .int .i64 0, .int .i64 0, .int .i64 0, .int .i64 0, .int .i64 0, .int .i64 0, .int .i64 0, .int .i64 0]) ?_ 5 _ rfl; (with_reducible repeat (first | refine blk_drewN ?_ _ | refine blk_drew ?_ | refine blk_alloc ?_ _)); refine blk_put (cs := #[.int .i64 a0_0, .int .i64 a0_1, .int .i64 a0_2, .int .i64 a0_3, .bool false, .int .i64 0, .int .i64 0, .int .i64 0, .int .i64 0, .int .i64 0, .int .i64 0, .int .i64 0, .int .i64 0, .int .i64 0]) ?_ 4 _ rfl; (with_reducible repeat (first | refine blk_drewN ?_ _ | refine blk_drew ?_ | refine blk_alloc ?_ _)); refine blk_put (cs := #[.int .i64 a0_0, .int .i64 a0_1, .int .i64 a0_2, .int .i64 0, .bool false, .int .i64 0, .int .i64 0, .int .i64 0, .int .i64 0, .int .i64 0, .int .i64 0, .int .i64 0, .int .i64 0, .int .i64 0]) ?_ 3 _ rfl; (with_reducible repeat (first | refine blk_drewN ?_ _ | refine blk_drew ?_ | refine blk_alloc ?_ _)); refine blk_put (cs := #[.int .i64 a0_0, .int .i64 a0_1, .int .i64 0, .int .i64 0, .bool false, .int .i64 0, .int .i64 0, .int .i64 0, .int .i64 0, .int .i64 0, .int .i64 0, .int .i64 0, .int .i64 0, .int .i64 0]) ?_ 2 _ rfl; (with_reducible repeat (first | refine blk_drewN ?_ _ | refine blk_drew ?_ | refine blk_alloc ?_ _)); refine blk_put (cs := #[.int .i64 a0_0, .int .i64 0, .int .i64 0, .int .i64 0, .bool false, .int .i64 0, .int .i64 0, .int .i64 0, .int .i64 0, .int .i64 0, .int .i64 0, .int .i64 0, .int .i64 0, .int .i64 0]) ?_ 1 _ rfl; (with_reducible repeat (first | refine blk_drewN ?_ _ | refine blk_drew ?_ | refine blk_alloc ?_ _)); refine blk_put (cs := #[.int .i64 0, .int .i64 0, .int .i64 0, .int .i64 0, .bool false, .int .i64 0, .int .i64 0, .int .i64 0, .int .i64 0, .int .i64 0, .int .i64 0, .int .i64 0, .int .i64 0, .int .i64 0]) ?_ 0 _ rfl; (with_reducible repeat (first | refine blk_drewN ?_ _ | refine blk_drew ?_ | refine blk_alloc ?_ _)); exact BK283.out⟩
                have n2_ : Aside0 (Below w.heap.size w ((((((((((((((w85.setCell ⟨gb283, 0, none⟩ (.int .i64 a0_0)).setCell ⟨gb283, 1, none⟩ (.int .i64 a0_1)).setCell ⟨gb283, 2, none⟩ (.int .i64 a0_2)).setCell ⟨gb283, 3, none⟩ (.int .i64 a0_3)).setCell ⟨gb283, 4, none⟩ (.bool a0_4)).setCell ⟨gb283, 5, none⟩ (.int .i64 0)).setCell ⟨gb283, 6, none⟩ (.int .i64 0)).setCell ⟨gb283, 7, none⟩ (.int .i64 0)).setCell ⟨gb283, 8, none⟩ (.int .i64 0)).setCell ⟨gb283, 9, none⟩ (.int .i64 0)).setCell ⟨gb283, 10, none⟩ (.int .i64 0)).setCell ⟨gb283, 11, none⟩ (.int .i64 0)).setCell ⟨gb283, 12, none⟩ (.int .i64 0)).setCell ⟨gb283, 13, none⟩ (.int .i64 0))) := ⟨by repeat (first | (with_reducible first | exact HB.out | apply below_alloc | apply pw_below_drewN | apply below_drew1 | refine below_set ?_ GE280.out | refine below_set ?_ GE283.out) | exact HB.out)⟩
                (try clear BK280)
                (try clear BK283)
                (try clear HB)
                generalize ((((((((((((((w85.setCell ⟨gb283, 0, none⟩ (.int .i64 a0_0)).setCell ⟨gb283, 1, none⟩ (.int .i64 a0_1)).setCell ⟨gb283, 2, none⟩ (.int .i64 a0_2)).setCell ⟨gb283, 3, none⟩ (.int .i64 a0_3)).setCell ⟨gb283, 4, none⟩ (.bool a0_4)).setCell ⟨gb283, 5, none⟩ (.int .i64 0)).setCell ⟨gb283, 6, none⟩ (.int .i64 0)).setCell ⟨gb283, 7, none⟩ (.int .i64 0)).setCell ⟨gb283, 8, none⟩ (.int .i64 0)).setCell ⟨gb283, 9, none⟩ (.int .i64 0)).setCell ⟨gb283, 10, none⟩ (.int .i64 0)).setCell ⟨gb283, 11, none⟩ (.int .i64 0)).setCell ⟨gb283, 12, none⟩ (.int .i64 0)).setCell ⟨gb283, 13, none⟩ (.int .i64 0)) = w89 at n0_ n1_ n2_ ⊢
                have BK280 := n0_
                have BK283 := n1_
                have HB := n2_
                clear n0_ n1_ n2_
                have n0_ := Aside0.mk (blk_drew BK280.out)
                have n1_ := Aside0.mk (blk_drew BK283.out)
                have n2_ := Aside0.mk (below_drew1 HB.out)
                clear BK280
                clear BK283
                clear HB
                have BK280 := n0_
                have BK283 := n1_
                have HB := n2_
                clear n0_ n1_ n2_
                refine start_ (n := 8) (S := fun w' => w'.cell? ⟨gb280, 0, none⟩ = some (.int .i64 a0_0) ∧ w'.cell? ⟨gb280, 1, none⟩ = some (.int .i64 a0_1) ∧ w'.cell? ⟨gb280, 2, none⟩ = some (.int .i64 a0_2) ∧ w'.cell? ⟨gb280, 3, none⟩ = some (.int .i64 a0_3) ∧ w'.cell? ⟨gb280, 4, none⟩ = some (.bool a0_4) ∧ w'.cell? ⟨gb280, 5, none⟩ = some (.int .i64 a0_5) ∧ w'.cell? ⟨gb280, 6, none⟩ = some (.int .i64 a0_6) ∧ w'.cell? ⟨gb280, 7, none⟩ = some (.int .i64 a0_7) ∧ w'.cell? ⟨gb280, 8, none⟩ = some (.int .i64 a0_8) ∧ w'.cell? ⟨gb280, 9, none⟩ = some (.int .i64 a0_9) ∧ w'.cell? ⟨gb280, 10, none⟩ = some (.int .i64 a0_10) ∧ w'.cell? ⟨gb280, 11, none⟩ = some (.int .i64 a0_11) ∧ w'.cell? ⟨gb280, 12, none⟩ = some (.int .i64 a0_12) ∧ w'.cell? ⟨gb280, 13, none⟩ = some (.int .i64 a0_13)) (ds := []) #[false, false, false, false, false, false, false, false] (by kernel_rfl) rfl rfl ⟨(blk_cell BK280.out 0).trans rfl, (blk_cell BK280.out 1).trans rfl, (blk_cell BK280.out 2).trans rfl, (blk_cell BK280.out 3).trans rfl, (blk_cell BK280.out 4).trans rfl, (blk_cell BK280.out 5).trans rfl, (blk_cell BK280.out 6).trans rfl, (blk_cell BK280.out 7).trans rfl, (blk_cell BK280.out 8).trans rfl, (blk_cell BK280.out 9).trans rfl, (blk_cell BK280.out 10).trans rfl, (blk_cell BK280.out 11).trans rfl, (blk_cell BK280.out 12).trans rfl, (blk_cell BK280.out 13).trans rfl⟩ (fun hHeld => ?_); refine with_tabW impl_TaskOk0.tab13 impl_TaskOk0.bits13 (fun HT_ HW_ => ?_)
                generalize w89.drew = w90 at BK280 BK283 HB hHeld ⊢
                refine pure_ (i := 0) (N := some 109) (v := ?_) (a' := ?_) #[true, false, false, false, false, false, false, false] rfl rfl (any_of HT_.out (by kernel_rfl)) (fun _ _ _ h => h) (Or.inl ⟨by rfl, ?_⟩) ?_ ?_
                rotate_left
                · intro w'
                  go_simp
                  with_reducible rfl
                rotate_left
                · simp only [Act.put, List.setIfInBounds_toArray, List.set_cons_zero, List.set_cons_succ, i64_w, i32_w]
                  rfl
                refine pure_ (i := 2) (N := some 111) (v := ?_) (a' := ?_) #[true, false, true, false, false, false, false, false] rfl rfl (any_of HT_.out (by kernel_rfl)) (fun _ _ _ h => h) (Or.inl ⟨by rfl, ?_⟩) ?_ ?_
                rotate_left
                · intro w'
                  go_simp
                  with_reducible rfl
                rotate_left
                · simp only [Act.put, List.setIfInBounds_toArray, List.set_cons_zero, List.set_cons_succ, i64_w, i32_w]
                  rfl
                refine take_ (i := 1) (N := some 110) (v := ?_) (a' := ?_) #[true, true, true, false, false, false, false, false] rfl rfl (take_ofW HT_.out HW_.out (by kernel_rfl)) (fun _ _ _ h => h) (Or.inl ⟨by rfl, ?_⟩) hHeld ?_ ?_
                rotate_left
                · rintro w' ⟨s0, s1, s2, s3, s4, s5, s6, s7, s8, s9, s10, s11, s12, s13⟩
                  go_simp
                  with_reducible rfl
                rotate_left
                · simp only [Act.put, List.setIfInBounds_toArray, List.set_cons_zero, List.set_cons_succ, i64_w, i32_w]
                  rfl
                refine pure_ (i := 4) (N := some 113) (v := ?_) (a' := ?_) #[true, true, true, false, true, false, false, false] rfl rfl (any_of HT_.out (by kernel_rfl)) (fun _ _ _ h => h) (Or.inl ⟨by rfl, ?_⟩) ?_ ?_
                rotate_left
                · intro w'
                  go_simp
                  with_reducible rfl
                rotate_left
                · simp only [Act.put, List.setIfInBounds_toArray, List.set_cons_zero, List.set_cons_succ, i64_w, i32_w]
                  rfl
                refine take_ (i := 3) (N := some 112) (v := ?_) (a' := ?_) #[true, true, true, true, true, false, false, false] rfl rfl (take_ofW HT_.out HW_.out (by kernel_rfl)) (fun _ _ _ h => h) (Or.inl ⟨by rfl, ?_⟩) hHeld ?_ ?_
                rotate_left
                · rintro w' ⟨s0, s1, s2, s3, s4, s5, s6, s7, s8, s9, s10, s11, s12, s13⟩
                  go_simp
                  with_reducible rfl
                rotate_left
                · simp only [Act.put, List.setIfInBounds_toArray, List.set_cons_zero, List.set_cons_succ, i64_w, i32_w]
                  rfl
                refine one_ (i := 5) (N := none) #[true, true, true, true, true, true, false, false] rfl rfl (one_of HT_.out (by kernel_rfl)) (by decide) (fun K hK => ?_)
                have hs91 : w90.cell? ⟨gb283, 12, none⟩ = some (.int .i64 0) := (blk_cell BK283.out 12).trans rfl
                have hfs91 := blk_frozen BK283.out 12
                have hns91_0 := NB280_283.out
                have hms91_0 := NB283_280.out
                refine skip_ (w1 := ?_) (by rfl) rfl ?_ ?_
                rotate_left
                · go_simp
                  rfl
                refine hK.out _ _ ⟨((cell_far (p := ⟨gb283, _, none⟩) NB280_283.out _).trans (hHeld.1)), ((cell_far (p := ⟨gb283, _, none⟩) NB280_283.out _).trans (hHeld.2.1)), ((cell_far (p := ⟨gb283, _, none⟩) NB280_283.out _).trans (hHeld.2.2.1)), ((cell_far (p := ⟨gb283, _, none⟩) NB280_283.out _).trans (hHeld.2.2.2.1)), ((cell_far (p := ⟨gb283, _, none⟩) NB280_283.out _).trans (hHeld.2.2.2.2.1)), ((cell_far (p := ⟨gb283, _, none⟩) NB280_283.out _).trans (hHeld.2.2.2.2.2.1)), ((cell_far (p := ⟨gb283, _, none⟩) NB280_283.out _).trans (hHeld.2.2.2.2.2.2.1)), ((cell_far (p := ⟨gb283, _, none⟩) NB280_283.out _).trans (hHeld.2.2.2.2.2.2.2.1)), ((cell_far (p := ⟨gb283, _, none⟩) NB280_283.out _).trans (hHeld.2.2.2.2.2.2.2.2.1)), ((cell_far (p := ⟨gb283, _, none⟩) NB280_283.out _).trans (hHeld.2.2.2.2.2.2.2.2.2.1)), ((cell_far (p := ⟨gb283, _, none⟩) NB280_283.out _).trans (hHeld.2.2.2.2.2.2.2.2.2.2.1)), ((cell_far (p := ⟨gb283, _, none⟩) NB280_283.out _).trans (hHeld.2.2.2.2.2.2.2.2.2.2.2.1)), ((cell_far (p := ⟨gb283, _, none⟩) NB280_283.out _).trans (hHeld.2.2.2.2.2.2.2.2.2.2.2.2.1)), ((cell_far (p := ⟨gb283, _, none⟩) NB280_283.out _).trans (hHeld.2.2.2.2.2.2.2.2.2.2.2.2.2))⟩ (fun hHeld => ?_)
                clear hK K
                refine pure_ (i := 6) (N := some 114) (v := ?_) (a' := ?_) #[true, true, true, true, true, true, true, false] rfl rfl (any_of HT_.out (by kernel_rfl)) (fun _ _ _ h => h) (Or.inl ⟨by rfl, ?_⟩) ?_ ?_
                rotate_left
                · intro w'
                  go_simp
                  with_reducible rfl
                rotate_left
                · simp only [Act.put, List.setIfInBounds_toArray, List.set_cons_zero, List.set_cons_succ, i64_w, i32_w]
                  rfl
                refine one_ (i := 7) (N := none) #[true, true, true, true, true, true, true, true] rfl rfl (one_of HT_.out (by kernel_rfl)) (by decide) (fun K hK => ?_)
                have hs92 : w90.cell? ⟨gb283, 13, none⟩ = some (.int .i64 0) := (blk_cell BK283.out 13).trans rfl
                have hfs92 := blk_frozen BK283.out 13
                have hns92_0 := NB280_283.out
                have hms92_0 := NB283_280.out
                refine skip_ (w1 := ?_) (by rfl) rfl ?_ ?_
                rotate_left
                · go_simp
                  rfl
                refine hK.out _ _ ⟨((cell_far (p := ⟨gb283, _, none⟩) NB280_283.out _).trans (hHeld.1)), ((cell_far (p := ⟨gb283, _, none⟩) NB280_283.out _).trans (hHeld.2.1)), ((cell_far (p := ⟨gb283, _, none⟩) NB280_283.out _).trans (hHeld.2.2.1)), ((cell_far (p := ⟨gb283, _, none⟩) NB280_283.out _).trans (hHeld.2.2.2.1)), ((cell_far (p := ⟨gb283, _, none⟩) NB280_283.out _).trans (hHeld.2.2.2.2.1)), ((cell_far (p := ⟨gb283, _, none⟩) NB280_283.out _).trans (hHeld.2.2.2.2.2.1)), ((cell_far (p := ⟨gb283, _, none⟩) NB280_283.out _).trans (hHeld.2.2.2.2.2.2.1)), ((cell_far (p := ⟨gb283, _, none⟩) NB280_283.out _).trans (hHeld.2.2.2.2.2.2.2.1)), ((cell_far (p := ⟨gb283, _, none⟩) NB280_283.out _).trans (hHeld.2.2.2.2.2.2.2.2.1)), ((cell_far (p := ⟨gb283, _, none⟩) NB280_283.out _).trans (hHeld.2.2.2.2.2.2.2.2.2.1)), ((cell_far (p := ⟨gb283, _, none⟩) NB280_283.out _).trans (hHeld.2.2.2.2.2.2.2.2.2.2.1)), ((cell_far (p := ⟨gb283, _, none⟩) NB280_283.out _).trans (hHeld.2.2.2.2.2.2.2.2.2.2.2.1)), ((cell_far (p := ⟨gb283, _, none⟩) NB280_283.out _).trans (hHeld.2.2.2.2.2.2.2.2.2.2.2.2.1)), ((cell_far (p := ⟨gb283, _, none⟩) NB280_283.out _).trans (hHeld.2.2.2.2.2.2.2.2.2.2.2.2.2))⟩ (fun hHeld => ?_)
                clear hK K
                refine done_ (done_of HT_.out (by kernel_rfl)) ?_
                try go_wp2
                go_meet
                case rel => exact ⟨_, (a0_12), (a0_13), H', ⟨by have := HJ1.out; first | omega | exact Nat.le_refl _⟩, ⟨by (with_reducible repeat (first | refine blk_drewN ?_ _ | refine blk_drew ?_ | refine blk_alloc ?_ _)); refine blk_far ?_ NB280_283.out _; (with_reducible repeat (first | refine blk_drewN ?_ _ | refine blk_drew ?_ | refine blk_alloc ?_ _)); refine blk_far ?_ NB280_283.out _; (with_reducible repeat (first | refine blk_drewN ?_ _ | refine blk_drew ?_ | refine blk_alloc ?_ _)); exact BK280.out⟩, ⟨by (with_reducible repeat (first | refine blk_drewN ?_ _ | refine blk_drew ?_ | refine blk_alloc ?_ _)); refine blk_put (cs := #[.int .i64 a0_0, .int .i64 a0_1, .int .i64 a0_2, .int .i64 a0_3, .bool a0_4, .int .i64 0, .int .i64 0, .int .i64 0, .int .i64 0, .int .i64 0, .int .i64 0, .int .i64 0, .int .i64 a0_12, .int .i64 0]) ?_ 13 _ rfl; (with_reducible repeat (first | refine blk_drewN ?_ _ | refine blk_drew ?_ | refine blk_alloc ?_ _)); refine blk_put (cs := #[.int .i64 a0_0, .int .i64 a0_1, .int .i64 a0_2, .int .i64 a0_3, .bool a0_4, .int .i64 0, .int .i64 0, .int .i64 0, .int .i64 0, .int .i64 0, .int .i64 0, .int .i64 0, .int .i64 0, .int .i64 0]) ?_ 12 _ rfl; (with_reducible repeat (first | refine blk_drewN ?_ _ | refine blk_drew ?_ | refine blk_alloc ?_ _)); exact BK283.out⟩, ⟨by repeat (first | (with_reducible first | exact HB.out | apply below_alloc | apply pw_below_drewN | apply below_drew1 | refine below_set ?_ GE280.out | refine below_set ?_ GE283.out) | exact HB.out)⟩⟩
              case rest =>
                clear HC83
                try clear p2
                try clear c4
                try clear c6
                try clear c7
                try clear c8
                try clear c42
                try clear c49
                try clear c49b0
                try clear c49b1
                try clear c63
                try clear c65
                try clear c68
                try clear c70
                try clear c71
                try clear c74
                try clear c76
                try clear c78
                try clear c80
                try clear c82
                try clear c82b0
                try clear c82b1
                try clear c86
                try clear hcz72_0
                try clear hcz72_1
                try clear hcz72_10
                try clear hcz72_11
                try clear hcz72_12
                try clear hcz72_13
                try clear hcz72_2
                try clear hcz72_3
                try clear hcz72_4
                try clear hcz72_5
                try clear hcz72_6
                try clear hcz72_7
                try clear hcz72_8
                try clear hcz72_9
                try clear hcz73_0
                try clear hcz73_1
                try clear hcz73_10
                try clear hcz73_11
                try clear hcz73_12
                try clear hcz73_13
                try clear hcz73_2
                try clear hcz73_3
                try clear hcz73_4
                try clear hcz73_5
                try clear hcz73_6
                try clear hcz73_7
                try clear hcz73_8
                try clear hcz73_9
                try clear hcz75_0
                try clear hcz75_1
                try clear hcz75_10
                try clear hcz75_11
                try clear hcz75_12
                try clear hcz75_13
                try clear hcz75_2
                try clear hcz75_3
                try clear hcz75_4
                try clear hcz75_5
                try clear hcz75_6
                try clear hcz75_7
                try clear hcz75_8
                try clear hcz75_9
                try clear hcz77_0
                try clear hcz77_1
                try clear hcz77_10
                try clear hcz77_11
                try clear hcz77_12
                try clear hcz77_13
                try clear hcz77_2
                try clear hcz77_3
                try clear hcz77_4
                try clear hcz77_5
                try clear hcz77_6
                try clear hcz77_7
                try clear hcz77_8
                try clear hcz77_9
                try clear hcz79_0
                try clear hcz79_1
                try clear hcz79_10
                try clear hcz79_11
                try clear hcz79_12
                try clear hcz79_13
                try clear hcz79_2
                try clear hcz79_3
                try clear hcz79_4
                try clear hcz79_5
                try clear hcz79_6
                try clear hcz79_7
                try clear hcz79_8
                try clear hcz79_9
                try clear hcz81_0
                try clear hcz81_1
                try clear hcz81_10
                try clear hcz81_11
                try clear hcz81_12
                try clear hcz81_13
                try clear hcz81_2
                try clear hcz81_3
                try clear hcz81_4
                try clear hcz81_5
                try clear hcz81_6
                try clear hcz81_7
                try clear hcz81_8
                try clear hcz81_9
                try clear hcz84_0
                try clear hcz84_1
                try clear hcz84_10
                try clear hcz84_11
                try clear hcz84_12
                try clear hcz84_13
                try clear hcz84_2
                try clear hcz84_3
                try clear hcz84_4
                try clear hcz84_5
                try clear hcz84_6
                try clear hcz84_7
                try clear hcz84_8
                try clear hcz84_9
                try clear hcz87_0
                try clear hcz87_1
                try clear hcz87_10
                try clear hcz87_11
                try clear hcz87_12
                try clear hcz87_13
                try clear hcz87_2
                try clear hcz87_3
                try clear hcz87_4
                try clear hcz87_5
                try clear hcz87_6
                try clear hcz87_7
                try clear hcz87_8
                try clear hcz87_9
                try clear hcz88_0
                try clear hcz88_1
                try clear hcz88_10
                try clear hcz88_11
                try clear hcz88_12
                try clear hcz88_13
                try clear hcz88_2
                try clear hcz88_3
                try clear hcz88_4
                try clear hcz88_5
                try clear hcz88_6
                try clear hcz88_7
                try clear hcz88_8
                try clear hcz88_9
                try clear hfz16_3
                try clear hfz16_4
                try clear hfz16_5
                try clear hfz16_6
                try clear hfz16_7
                try clear hfz16_8
                try clear hfz16_9
                try clear hfz19_0
                try clear hfz19_1
                try clear hfz19_10
                try clear hfz19_11
                try clear hfz19_12
                try clear hfz19_13
                try clear hfz19_2
                try clear hfz19_3
                try clear hfz19_4
                try clear hfz19_5
                try clear hfz19_6
                try clear hfz19_7
                try clear hfz19_8
                try clear hfz19_9
                try clear hfz20_0
                try clear hfz20_1
                try clear hfz20_10
                try clear hfz20_11
                try clear hfz20_12
                try clear hfz20_13
                try clear hfz20_2
                try clear hfz20_3
                try clear hfz20_4
                try clear hfz20_5
                try clear hfz20_6
                try clear hfz20_7
                try clear hfz20_8
                try clear hfz20_9
                try clear hfz34_0
                try clear hfz34_1
                try clear hfz34_10
                try clear hfz34_11
                try clear hfz34_12
                try clear hfz34_13
                try clear hfz34_2
                try clear hfz34_3
                try clear hfz34_4
                try clear hfz34_5
                try clear hfz34_6
                try clear hfz34_7
                try clear hfz34_8
                try clear hfz34_9
                try clear hfz36_0
                try clear hfz36_1
                try clear hfz36_10
                try clear hfz36_11
                try clear hfz36_12
                try clear hfz36_13
                try clear hfz36_2
                try clear hfz36_3
                try clear hfz36_4
                try clear hfz36_5
                try clear hfz36_6
                try clear hfz36_7
                try clear hfz36_8
                try clear hfz36_9
                try clear hfz37_0
                try clear hfz37_1
                try clear hfz37_10
                try clear hfz37_11
                try clear hfz37_12
                try clear hfz37_13
                try clear hfz37_2
                try clear hfz37_3
                try clear hfz37_4
                try clear hfz37_5
                try clear hfz37_6
                try clear hfz37_7
                try clear hfz37_8
                try clear hfz37_9
                try clear hfz39_0
                try clear hfz39_1
                try clear hfz39_10
                try clear hfz39_11
                try clear hfz39_12
                try clear hfz39_13
                try clear hfz39_2
                try clear hfz39_3
                try clear hfz39_4
                try clear hfz39_5
                try clear hfz39_6
                try clear hfz39_7
                try clear hfz39_8
                try clear hfz39_9
                try clear hfz41_0
                try clear hfz41_1
                try clear hfz41_10
                try clear hfz41_11
                try clear hfz41_12
                try clear hfz41_13
                try clear hfz41_2
                try clear hfz41_3
                try clear hfz41_4
                try clear hfz41_5
                try clear hfz41_6
                try clear hfz41_7
                try clear hfz41_8
                try clear hfz41_9
                try clear hfz43_0
                try clear hfz43_1
                try clear hfz43_10
                try clear hfz43_11
                try clear hfz43_12
                try clear hfz43_13
                try clear hfz43_2
                try clear hfz43_3
                try clear hfz43_4
                try clear hfz43_5
                try clear hfz43_6
                try clear hfz43_7
                try clear hfz43_8
                try clear hfz43_9
                try clear hfz45_0
                try clear hfz45_1
                try clear hfz45_10
                try clear hfz45_11
                try clear hfz45_12
                try clear hfz45_13
                try clear hfz45_2
                try clear hfz45_3
                try clear hfz45_4
                try clear hfz45_5
                try clear hfz45_6
                try clear hfz45_7
                try clear hfz45_8
                try clear hfz45_9
                try clear hfz47_0
                try clear hfz47_1
                try clear hfz47_10
                try clear hfz47_11
                try clear hfz47_12
                try clear hfz47_13
                try clear hfz47_2
                try clear hfz47_3
                try clear hfz47_4
                try clear hfz47_5
                try clear hfz47_6
                try clear hfz47_7
                try clear hfz47_8
                try clear hfz47_9
                try clear hfz51_0
                try clear hfz51_1
                try clear hfz51_10
                try clear hfz51_11
                try clear hfz51_12
                try clear hfz51_13
                try clear hfz51_2
                try clear hfz51_3
                try clear hfz51_4
                try clear hfz51_5
                try clear hfz51_6
                try clear hfz51_7
                try clear hfz51_8
                try clear hfz51_9
                try clear hfz54_0
                try clear hfz54_1
                try clear hfz54_10
                try clear hfz54_11
                try clear hfz54_12
                try clear hfz54_13
                try clear hfz54_2
                try clear hfz54_3
                try clear hfz54_4
                try clear hfz54_5
                try clear hfz54_6
                try clear hfz54_7
                try clear hfz54_8
                try clear hfz54_9
                try clear hfz55_0
                try clear hfz55_1
                try clear hfz55_10
                try clear hfz55_11
                try clear hfz55_12
                try clear hfz55_13
                try clear hfz55_2
                try clear hfz55_3
                try clear hfz55_4
                try clear hfz55_5
                try clear hfz55_6
                try clear hfz55_7
                try clear hfz55_8
                try clear hfz55_9
                try clear hfz72_0
                try clear hfz72_1
                try clear hfz72_10
                try clear hfz72_11
                try clear hfz72_12
                try clear hfz72_13
                try clear hfz72_2
                try clear hfz72_3
                try clear hfz72_4
                try clear hfz72_5
                try clear hfz72_6
                try clear hfz72_7
                try clear hfz72_8
                try clear hfz72_9
                try clear hfz73_0
                try clear hfz73_1
                try clear hfz73_10
                try clear hfz73_11
                try clear hfz73_12
                try clear hfz73_13
                try clear hfz73_2
                try clear hfz73_3
                try clear hfz73_4
                try clear hfz73_5
                try clear hfz73_6
                try clear hfz73_7
                try clear hfz73_8
                try clear hfz73_9
                try clear hfz75_0
                try clear hfz75_1
                try clear hfz75_10
                try clear hfz75_11
                try clear hfz75_12
                try clear hfz75_13
                try clear hfz75_2
                try clear hfz75_3
                try clear hfz75_4
                try clear hfz75_5
                try clear hfz75_6
                try clear hfz75_7
                try clear hfz75_8
                try clear hfz75_9
                try clear hfz77_0
                try clear hfz77_1
                try clear hfz77_10
                try clear hfz77_11
                try clear hfz77_12
                try clear hfz77_13
                try clear hfz77_2
                try clear hfz77_3
                try clear hfz77_4
                try clear hfz77_5
                try clear hfz77_6
                try clear hfz77_7
                try clear hfz77_8
                try clear hfz77_9
                try clear hfz79_0
                try clear hfz79_1
                try clear hfz79_10
                try clear hfz79_11
                try clear hfz79_12
                try clear hfz79_13
                try clear hfz79_2
                try clear hfz79_3
                try clear hfz79_4
                try clear hfz79_5
                try clear hfz79_6
                try clear hfz79_7
                try clear hfz79_8
                try clear hfz79_9
                try clear hfz81_0
                try clear hfz81_1
                try clear hfz81_10
                try clear hfz81_11
                try clear hfz81_12
                try clear hfz81_13
                try clear hfz81_2
                try clear hfz81_3
                try clear hfz81_4
                try clear hfz81_5
                try clear hfz81_6
                try clear hfz81_7
                try clear hfz81_8
                try clear hfz81_9
                try clear hfz84_0
                try clear hfz84_1
                try clear hfz84_10
                try clear hfz84_11
                try clear hfz84_12
                try clear hfz84_13
                try clear hfz84_2
                try clear hfz84_3
                try clear hfz84_4
                try clear hfz84_5
                try clear hfz84_6
                try clear hfz84_7
                try clear hfz84_8
                try clear hfz84_9
                try clear hfz87_0
                try clear hfz87_1
                try clear hfz87_10
                try clear hfz87_11
                try clear hfz87_12
                try clear hfz87_13
                try clear hfz87_2
                try clear hfz87_3
                try clear hfz87_4
                try clear hfz87_5
                try clear hfz87_6
                try clear hfz87_7
                try clear hfz87_8
                try clear hfz87_9
                try clear hfz88_0
                try clear hfz88_1
                try clear hfz88_10
                try clear hfz88_11
                try clear hfz88_12
                try clear hfz88_13
                try clear hfz88_2
                try clear hfz88_3
                try clear hfz88_4
                try clear hfz88_5
                try clear hfz88_6
                try clear hfz88_7
                try clear hfz88_8
                try clear hfz88_9
                try clear hfz9_0
                try clear hfz9_1
                try clear hfz9_10
                try clear hfz9_11
                try clear hfz9_12
                try clear hfz9_13
                try clear hfz9_2
                try clear hfz9_3
                try clear hfz9_4
                try clear hfz9_5
                try clear hfz9_6
                try clear hfz9_7
                try clear hfz9_8
                try clear hfz9_9
                try clear p2
                obtain ⟨kq, x284012_82, x284013_82, HA, HJ82, BK280, BK283, HB⟩ := hcut
                cases kq with
                | zero => exact absurd HA.out (by simp [impl_TaskOk0.j3])
                | succ kj82 =>
                  have H := HA.out
                  clear HA
                  simp only [impl_TaskOk0.j3] at H
                  replace H := Option.bind_eq_some_iff.mp H
                  obtain ⟨t291, A930, H⟩ := H
                  replace H : (if t291 = true then ((impl_in.f a0_13 0 100000000).bind fun t292 => (if t292 = true then (some (a0_0 == a0_0 && (a0_1 == a0_1 && (a0_2 == a0_2 && (a0_3 == a0_3 && (a0_4 == a0_4 && (a0_5 == 0 && (a0_6 == 0 && (a0_7 == 0 && (a0_8 == 0 && (a0_9 == 0 && (a0_10 == 0 && (a0_11 == 0 && (a0_12 == x284012_82 && (a0_13 == x284013_82))))))))))))))) else (some false))) else (some false)) = some r := H
                  have A93 := Aside0.mk A930
                  clear A930
                  by_cases c94 : t291 = true
                  · subst c94
                    have H1 : ((impl_in.f a0_13 0 100000000).bind fun t292 => (if t292 = true then (some (a0_0 == a0_0 && (a0_1 == a0_1 && (a0_2 == a0_2 && (a0_3 == a0_3 && (a0_4 == a0_4 && (a0_5 == 0 && (a0_6 == 0 && (a0_7 == 0 && (a0_8 == 0 && (a0_9 == 0 && (a0_10 == 0 && (a0_11 == 0 && (a0_12 == x284012_82 && (a0_13 == x284013_82))))))))))))))) else (some false))) = some r := by rw [if_pos rfl] at H; exact H
                    clear H
                    have H := H1
                    clear H1
                    replace H := Option.bind_eq_some_iff.mp H
                    obtain ⟨t292, A950, H⟩ := H
                    replace H : (if t292 = true then (some (a0_0 == a0_0 && (a0_1 == a0_1 && (a0_2 == a0_2 && (a0_3 == a0_3 && (a0_4 == a0_4 && (a0_5 == 0 && (a0_6 == 0 && (a0_7 == 0 && (a0_8 == 0 && (a0_9 == 0 && (a0_10 == 0 && (a0_11 == 0 && (a0_12 == x284012_82 && (a0_13 == x284013_82))))))))))))))) else (some false)) = some r := H
                    have A95 := Aside0.mk A950
                    clear A950
                    by_cases c96 : t292 = true
                    · subst c96
                      have H1 : (some (a0_0 == a0_0 && (a0_1 == a0_1 && (a0_2 == a0_2 && (a0_3 == a0_3 && (a0_4 == a0_4 && (a0_5 == 0 && (a0_6 == 0 && (a0_7 == 0 && (a0_8 == 0 && (a0_9 == 0 && (a0_10 == 0 && (a0_11 == 0 && (a0_12 == x284012_82 && (a0_13 == x284013_82))))))))))))))) = some r := by rw [if_pos rfl] at H; exact H
                      clear H
                      have H := H1
                      clear H1
                      obtain rfl := Option.some.inj H
                      have hnb97 := NB280_283.out
                      have hnc97 := NB283_280.out
                      have hcz98_0 : wc.cell? ⟨gb280, 0, none⟩ = some (.int .i64 a0_0) := (blk_cell BK280.out 0).trans rfl
                      have hcz98_1 : wc.cell? ⟨gb280, 1, none⟩ = some (.int .i64 a0_1) := (blk_cell BK280.out 1).trans rfl
                      have hcz98_2 : wc.cell? ⟨gb280, 2, none⟩ = some (.int .i64 a0_2) := (blk_cell BK280.out 2).trans rfl
                      have hcz98_3 : wc.cell? ⟨gb280, 3, none⟩ = some (.int .i64 a0_3) := (blk_cell BK280.out 3).trans rfl
                      have hcz98_4 : wc.cell? ⟨gb280, 4, none⟩ = some (.bool a0_4) := (blk_cell BK280.out 4).trans rfl
                      have hcz98_5 : wc.cell? ⟨gb280, 5, none⟩ = some (.int .i64 a0_5) := (blk_cell BK280.out 5).trans rfl
                      have hcz98_6 : wc.cell? ⟨gb280, 6, none⟩ = some (.int .i64 a0_6) := (blk_cell BK280.out 6).trans rfl
                      have hcz98_7 : wc.cell? ⟨gb280, 7, none⟩ = some (.int .i64 a0_7) := (blk_cell BK280.out 7).trans rfl
                      have hcz98_8 : wc.cell? ⟨gb280, 8, none⟩ = some (.int .i64 a0_8) := (blk_cell BK280.out 8).trans rfl
                      have hcz98_9 : wc.cell? ⟨gb280, 9, none⟩ = some (.int .i64 a0_9) := (blk_cell BK280.out 9).trans rfl
                      have hcz98_10 : wc.cell? ⟨gb280, 10, none⟩ = some (.int .i64 a0_10) := (blk_cell BK280.out 10).trans rfl
                      have hcz98_11 : wc.cell? ⟨gb280, 11, none⟩ = some (.int .i64 a0_11) := (blk_cell BK280.out 11).trans rfl
                      have hcz98_12 : wc.cell? ⟨gb280, 12, none⟩ = some (.int .i64 a0_12) := (blk_cell BK280.out 12).trans rfl
                      have hcz98_13 : wc.cell? ⟨gb280, 13, none⟩ = some (.int .i64 a0_13) := (blk_cell BK280.out 13).trans rfl
                      have hfz98_0 := blk_frozen BK280.out 0
                      have hfz98_1 := blk_frozen BK280.out 1
                      have hfz98_2 := blk_frozen BK280.out 2
                      have hfz98_3 := blk_frozen BK280.out 3
                      have hfz98_4 := blk_frozen BK280.out 4
                      have hfz98_5 := blk_frozen BK280.out 5
                      have hfz98_6 := blk_frozen BK280.out 6
                      have hfz98_7 := blk_frozen BK280.out 7
                      have hfz98_8 := blk_frozen BK280.out 8
                      have hfz98_9 := blk_frozen BK280.out 9
                      have hfz98_10 := blk_frozen BK280.out 10
                      have hfz98_11 := blk_frozen BK280.out 11
                      have hfz98_12 := blk_frozen BK280.out 12
                      have hfz98_13 := blk_frozen BK280.out 13
                      go_wp2_with (first | ((with_reducible refine gate_callee (f := 16) rfl ?_); refine goesL_ (some 117) rfl rfl Try.func16 (by kernel_rfl) rfl #[.int .i64 a0_12] rfl (by (try simp only [List.map_toArray, List.map_cons, List.map_nil]); first | done | rfl | (simp only [List.length_drop, List.length_take]; rfl)) ?_; (with_reducible refine (impl_NiceOk.calls a0_12 true _ A93.out).mono ?_); rintro e w' ⟨rfl, ⟨nd, rfl⟩⟩; refine ⟨_, rfl, ?_⟩) | (go_at_call 42; (with_reducible refine (impl_in.calls a0_13 0 100000000 true _ A95.out).mono ?_); rintro e w' ⟨rfl, ⟨nd, rfl⟩⟩; have hcz99_0 : wc.cell? ⟨gb283, 0, none⟩ = some (.int .i64 a0_0) := (blk_cell BK283.out 0).trans rfl; have hcz99_1 : wc.cell? ⟨gb283, 1, none⟩ = some (.int .i64 a0_1) := (blk_cell BK283.out 1).trans rfl; have hcz99_2 : wc.cell? ⟨gb283, 2, none⟩ = some (.int .i64 a0_2) := (blk_cell BK283.out 2).trans rfl; have hcz99_3 : wc.cell? ⟨gb283, 3, none⟩ = some (.int .i64 a0_3) := (blk_cell BK283.out 3).trans rfl; have hcz99_4 : wc.cell? ⟨gb283, 4, none⟩ = some (.bool a0_4) := (blk_cell BK283.out 4).trans rfl; have hcz99_5 : wc.cell? ⟨gb283, 5, none⟩ = some (.int .i64 0) := (blk_cell BK283.out 5).trans rfl; have hcz99_6 : wc.cell? ⟨gb283, 6, none⟩ = some (.int .i64 0) := (blk_cell BK283.out 6).trans rfl; have hcz99_7 : wc.cell? ⟨gb283, 7, none⟩ = some (.int .i64 0) := (blk_cell BK283.out 7).trans rfl; have hcz99_8 : wc.cell? ⟨gb283, 8, none⟩ = some (.int .i64 0) := (blk_cell BK283.out 8).trans rfl; have hcz99_9 : wc.cell? ⟨gb283, 9, none⟩ = some (.int .i64 0) := (blk_cell BK283.out 9).trans rfl; have hcz99_10 : wc.cell? ⟨gb283, 10, none⟩ = some (.int .i64 0) := (blk_cell BK283.out 10).trans rfl; have hcz99_11 : wc.cell? ⟨gb283, 11, none⟩ = some (.int .i64 0) := (blk_cell BK283.out 11).trans rfl; have hcz99_12 : wc.cell? ⟨gb283, 12, none⟩ = some (.int .i64 x284012_82) := (blk_cell BK283.out 12).trans rfl; have hcz99_13 : wc.cell? ⟨gb283, 13, none⟩ = some (.int .i64 x284013_82) := (blk_cell BK283.out 13).trans rfl; have hfz99_0 := blk_frozen BK283.out 0; have hfz99_1 := blk_frozen BK283.out 1; have hfz99_2 := blk_frozen BK283.out 2; have hfz99_3 := blk_frozen BK283.out 3; have hfz99_4 := blk_frozen BK283.out 4; have hfz99_5 := blk_frozen BK283.out 5; have hfz99_6 := blk_frozen BK283.out 6; have hfz99_7 := blk_frozen BK283.out 7; have hfz99_8 := blk_frozen BK283.out 8; have hfz99_9 := blk_frozen BK283.out 9; have hfz99_10 := blk_frozen BK283.out 10; have hfz99_11 := blk_frozen BK283.out 11; have hfz99_12 := blk_frozen BK283.out 12; have hfz99_13 := blk_frozen BK283.out 13))
                      go_ret
                      exact ⟨by first | rfl | (simp [errW_none, errW_some] <;> rfl) | (simp [*, errW_none, errW_some] <;> rfl), by repeat (first | (with_reducible first | exact HB.out | apply below_alloc | apply pw_below_drewN | apply below_drew1 | refine below_set ?_ GE280.out | refine below_set ?_ GE283.out) | exact HB.out)⟩
                    · replace c96 := Bool.eq_false_iff.mpr c96
                      subst c96
                      have H1 : (some false) = some r := by rw [if_neg (show ¬ (false = true) by decide)] at H; exact H
                      clear H
                      have H := H1
                      clear H1
                      obtain rfl := Option.some.inj H
                      have hnb100 := NB280_283.out
                      have hnc100 := NB283_280.out
                      have hcz101_0 : wc.cell? ⟨gb280, 0, none⟩ = some (.int .i64 a0_0) := (blk_cell BK280.out 0).trans rfl
                      have hcz101_1 : wc.cell? ⟨gb280, 1, none⟩ = some (.int .i64 a0_1) := (blk_cell BK280.out 1).trans rfl
                      have hcz101_2 : wc.cell? ⟨gb280, 2, none⟩ = some (.int .i64 a0_2) := (blk_cell BK280.out 2).trans rfl
                      have hcz101_3 : wc.cell? ⟨gb280, 3, none⟩ = some (.int .i64 a0_3) := (blk_cell BK280.out 3).trans rfl
                      have hcz101_4 : wc.cell? ⟨gb280, 4, none⟩ = some (.bool a0_4) := (blk_cell BK280.out 4).trans rfl
                      have hcz101_5 : wc.cell? ⟨gb280, 5, none⟩ = some (.int .i64 a0_5) := (blk_cell BK280.out 5).trans rfl
                      have hcz101_6 : wc.cell? ⟨gb280, 6, none⟩ = some (.int .i64 a0_6) := (blk_cell BK280.out 6).trans rfl
                      have hcz101_7 : wc.cell? ⟨gb280, 7, none⟩ = some (.int .i64 a0_7) := (blk_cell BK280.out 7).trans rfl
                      have hcz101_8 : wc.cell? ⟨gb280, 8, none⟩ = some (.int .i64 a0_8) := (blk_cell BK280.out 8).trans rfl
                      have hcz101_9 : wc.cell? ⟨gb280, 9, none⟩ = some (.int .i64 a0_9) := (blk_cell BK280.out 9).trans rfl
                      have hcz101_10 : wc.cell? ⟨gb280, 10, none⟩ = some (.int .i64 a0_10) := (blk_cell BK280.out 10).trans rfl
                      have hcz101_11 : wc.cell? ⟨gb280, 11, none⟩ = some (.int .i64 a0_11) := (blk_cell BK280.out 11).trans rfl
                      have hcz101_12 : wc.cell? ⟨gb280, 12, none⟩ = some (.int .i64 a0_12) := (blk_cell BK280.out 12).trans rfl
                      have hcz101_13 : wc.cell? ⟨gb280, 13, none⟩ = some (.int .i64 a0_13) := (blk_cell BK280.out 13).trans rfl
                      have hfz101_0 := blk_frozen BK280.out 0
                      have hfz101_1 := blk_frozen BK280.out 1
                      have hfz101_2 := blk_frozen BK280.out 2
                      have hfz101_3 := blk_frozen BK280.out 3
                      have hfz101_4 := blk_frozen BK280.out 4
                      have hfz101_5 := blk_frozen BK280.out 5
                      have hfz101_6 := blk_frozen BK280.out 6
                      have hfz101_7 := blk_frozen BK280.out 7
                      have hfz101_8 := blk_frozen BK280.out 8
                      have hfz101_9 := blk_frozen BK280.out 9
                      have hfz101_10 := blk_frozen BK280.out 10
                      have hfz101_11 := blk_frozen BK280.out 11
                      have hfz101_12 := blk_frozen BK280.out 12
                      have hfz101_13 := blk_frozen BK280.out 13
                      go_wp2_with (first | ((with_reducible refine gate_callee (f := 16) rfl ?_); refine goesL_ (some 117) rfl rfl Try.func16 (by kernel_rfl) rfl #[.int .i64 a0_12] rfl (by (try simp only [List.map_toArray, List.map_cons, List.map_nil]); first | done | rfl | (simp only [List.length_drop, List.length_take]; rfl)) ?_; (with_reducible refine (impl_NiceOk.calls a0_12 true _ A93.out).mono ?_); rintro e w' ⟨rfl, ⟨nd, rfl⟩⟩; refine ⟨_, rfl, ?_⟩) | (go_at_call 42; (with_reducible refine (impl_in.calls a0_13 0 100000000 false _ A95.out).mono ?_); rintro e w' ⟨rfl, ⟨nd, rfl⟩⟩))
                      go_ret
                      exact ⟨by first | rfl | (simp [errW_none, errW_some] <;> rfl) | (simp [*, errW_none, errW_some] <;> rfl), by repeat (first | (with_reducible first | exact HB.out | apply below_alloc | apply pw_below_drewN | apply below_drew1 | refine below_set ?_ GE280.out | refine below_set ?_ GE283.out) | exact HB.out)⟩
                  · replace c94 := Bool.eq_false_iff.mpr c94
                    subst c94
                    have H1 : (some false) = some r := by rw [if_neg (show ¬ (false = true) by decide)] at H; exact H
                    clear H
                    have H := H1
                    clear H1
                    obtain rfl := Option.some.inj H
                    have hnb102 := NB280_283.out
                    have hnc102 := NB283_280.out
                    have hcz103_0 : wc.cell? ⟨gb280, 0, none⟩ = some (.int .i64 a0_0) := (blk_cell BK280.out 0).trans rfl
                    have hcz103_1 : wc.cell? ⟨gb280, 1, none⟩ = some (.int .i64 a0_1) := (blk_cell BK280.out 1).trans rfl
                    have hcz103_2 : wc.cell? ⟨gb280, 2, none⟩ = some (.int .i64 a0_2) := (blk_cell BK280.out 2).trans rfl
                    have hcz103_3 : wc.cell? ⟨gb280, 3, none⟩ = some (.int .i64 a0_3) := (blk_cell BK280.out 3).trans rfl
                    have hcz103_4 : wc.cell? ⟨gb280, 4, none⟩ = some (.bool a0_4) := (blk_cell BK280.out 4).trans rfl
                    have hcz103_5 : wc.cell? ⟨gb280, 5, none⟩ = some (.int .i64 a0_5) := (blk_cell BK280.out 5).trans rfl
                    have hcz103_6 : wc.cell? ⟨gb280, 6, none⟩ = some (.int .i64 a0_6) := (blk_cell BK280.out 6).trans rfl
                    have hcz103_7 : wc.cell? ⟨gb280, 7, none⟩ = some (.int .i64 a0_7) := (blk_cell BK280.out 7).trans rfl
                    have hcz103_8 : wc.cell? ⟨gb280, 8, none⟩ = some (.int .i64 a0_8) := (blk_cell BK280.out 8).trans rfl
                    have hcz103_9 : wc.cell? ⟨gb280, 9, none⟩ = some (.int .i64 a0_9) := (blk_cell BK280.out 9).trans rfl
                    have hcz103_10 : wc.cell? ⟨gb280, 10, none⟩ = some (.int .i64 a0_10) := (blk_cell BK280.out 10).trans rfl
                    have hcz103_11 : wc.cell? ⟨gb280, 11, none⟩ = some (.int .i64 a0_11) := (blk_cell BK280.out 11).trans rfl
                    have hcz103_12 : wc.cell? ⟨gb280, 12, none⟩ = some (.int .i64 a0_12) := (blk_cell BK280.out 12).trans rfl
                    have hcz103_13 : wc.cell? ⟨gb280, 13, none⟩ = some (.int .i64 a0_13) := (blk_cell BK280.out 13).trans rfl
                    have hfz103_0 := blk_frozen BK280.out 0
                    have hfz103_1 := blk_frozen BK280.out 1
                    have hfz103_2 := blk_frozen BK280.out 2
                    have hfz103_3 := blk_frozen BK280.out 3
                    have hfz103_4 := blk_frozen BK280.out 4
                    have hfz103_5 := blk_frozen BK280.out 5
                    have hfz103_6 := blk_frozen BK280.out 6
                    have hfz103_7 := blk_frozen BK280.out 7
                    have hfz103_8 := blk_frozen BK280.out 8
                    have hfz103_9 := blk_frozen BK280.out 9
                    have hfz103_10 := blk_frozen BK280.out 10
                    have hfz103_11 := blk_frozen BK280.out 11
                    have hfz103_12 := blk_frozen BK280.out 12
                    have hfz103_13 := blk_frozen BK280.out 13
                    go_wp2_with (first | ((with_reducible refine gate_callee (f := 16) rfl ?_); refine goesL_ (some 117) rfl rfl Try.func16 (by kernel_rfl) rfl #[.int .i64 a0_12] rfl (by (try simp only [List.map_toArray, List.map_cons, List.map_nil]); first | done | rfl | (simp only [List.length_drop, List.length_take]; rfl)) ?_; (with_reducible refine (impl_NiceOk.calls a0_12 false _ A93.out).mono ?_); rintro e w' ⟨rfl, ⟨nd, rfl⟩⟩; refine ⟨_, rfl, ?_⟩))
                    go_ret
                    exact ⟨by first | rfl | (simp [errW_none, errW_some] <;> rfl) | (simp [*, errW_none, errW_some] <;> rfl), by repeat (first | (with_reducible first | exact HB.out | apply below_alloc | apply pw_below_drewN | apply below_drew1 | refine below_set ?_ GE280.out | refine below_set ?_ GE283.out) | exact HB.out)⟩
            · rw [if_neg c82] at H
              have c82b0 : (a0_1 == 3) = false := beq_eq_false_iff_ne.mpr c82
              have c82b1 : (a0_1 != 3) = true := bne_iff_ne.mpr c82
              obtain rfl := Option.some.inj H
              have hcz104_0 : wc.cell? ⟨gb280, 0, none⟩ = some (.int .i64 a0_0) := (blk_cell BK280.out 0).trans rfl
              have hcz104_1 : wc.cell? ⟨gb280, 1, none⟩ = some (.int .i64 a0_1) := (blk_cell BK280.out 1).trans rfl
              have hcz104_2 : wc.cell? ⟨gb280, 2, none⟩ = some (.int .i64 a0_2) := (blk_cell BK280.out 2).trans rfl
              have hcz104_3 : wc.cell? ⟨gb280, 3, none⟩ = some (.int .i64 a0_3) := (blk_cell BK280.out 3).trans rfl
              have hcz104_4 : wc.cell? ⟨gb280, 4, none⟩ = some (.bool a0_4) := (blk_cell BK280.out 4).trans rfl
              have hcz104_5 : wc.cell? ⟨gb280, 5, none⟩ = some (.int .i64 a0_5) := (blk_cell BK280.out 5).trans rfl
              have hcz104_6 : wc.cell? ⟨gb280, 6, none⟩ = some (.int .i64 a0_6) := (blk_cell BK280.out 6).trans rfl
              have hcz104_7 : wc.cell? ⟨gb280, 7, none⟩ = some (.int .i64 a0_7) := (blk_cell BK280.out 7).trans rfl
              have hcz104_8 : wc.cell? ⟨gb280, 8, none⟩ = some (.int .i64 a0_8) := (blk_cell BK280.out 8).trans rfl
              have hcz104_9 : wc.cell? ⟨gb280, 9, none⟩ = some (.int .i64 a0_9) := (blk_cell BK280.out 9).trans rfl
              have hcz104_10 : wc.cell? ⟨gb280, 10, none⟩ = some (.int .i64 a0_10) := (blk_cell BK280.out 10).trans rfl
              have hcz104_11 : wc.cell? ⟨gb280, 11, none⟩ = some (.int .i64 a0_11) := (blk_cell BK280.out 11).trans rfl
              have hcz104_12 : wc.cell? ⟨gb280, 12, none⟩ = some (.int .i64 a0_12) := (blk_cell BK280.out 12).trans rfl
              have hcz104_13 : wc.cell? ⟨gb280, 13, none⟩ = some (.int .i64 a0_13) := (blk_cell BK280.out 13).trans rfl
              have hfz104_0 := blk_frozen BK280.out 0
              have hfz104_1 := blk_frozen BK280.out 1
              have hfz104_2 := blk_frozen BK280.out 2
              have hfz104_3 := blk_frozen BK280.out 3
              have hfz104_4 := blk_frozen BK280.out 4
              have hfz104_5 := blk_frozen BK280.out 5
              have hfz104_6 := blk_frozen BK280.out 6
              have hfz104_7 := blk_frozen BK280.out 7
              have hfz104_8 := blk_frozen BK280.out 8
              have hfz104_9 := blk_frozen BK280.out 9
              have hfz104_10 := blk_frozen BK280.out 10
              have hfz104_11 := blk_frozen BK280.out 11
              have hfz104_12 := blk_frozen BK280.out 12
              have hfz104_13 := blk_frozen BK280.out 13
              go_wp2_with (first | ((with_reducible refine gate_dst (N := 3) rfl ?_); (try (refine gate_guard (by rfl) ?_; dsimp only)); refine box_event ?hg (N := 3) ?hd (cs := #[.int .i64 0, .int .i64 0, .int .i64 0, .int .i64 0, .bool false, .int .i64 0, .int .i64 0, .int .i64 0, .int .i64 0, .int .i64 0, .int .i64 0, .int .i64 0, .int .i64 0, .int .i64 0]) (t := 48) ?hr ?_; (case hd => rfl); (case hg => rfl); (case hr => first | (go_simp; done) | (go_simp; rfl)); intro gb283 hg w105 hbox hb; have n0_ := Aside0.mk (blk_below (g := gb280) (o := .cells #[.int .i64 a0_0, .int .i64 a0_1, .int .i64 a0_2, .int .i64 a0_3, .bool a0_4, .int .i64 a0_5, .int .i64 a0_6, .int .i64 a0_7, .int .i64 a0_8, .int .i64 a0_9, .int .i64 a0_10, .int .i64 a0_11, .int .i64 a0_12, .int .i64 a0_13] 48 (0, 0)) (by (with_reducible repeat (first | refine blk_drewN ?_ _ | refine blk_drew ?_ | refine blk_alloc ?_ _)); exact BK280.out) hb); have n1_ := Aside0.mk (below_step (by repeat (first | (with_reducible first | exact HB.out | apply below_alloc | apply pw_below_drewN | apply below_drew1 | refine below_set ?_ GE280.out) | exact HB.out)) hb); have n2_ := Aside0.mk (hbox); have n3_ := Aside0.mk ((by rw [hg]; exact (below_size (by repeat (first | (with_reducible first | exact HB.out | apply below_alloc | apply pw_below_drewN | apply below_drew1 | refine below_set ?_ GE280.out) | exact HB.out))) : w.heap.size ≤ gb283)); have n4_ := Aside0.mk ((by rw [hg]; exact (below_size (by repeat (first | (with_reducible first | exact HB.out | apply below_alloc | apply pw_below_drewN | apply below_drew1 | refine below_set ?_ GE280.out) | exact HB.out))) : w.heap.size ≤ gb283)); have n5_ := Aside0.mk ((by rw [hg]; exact Nat.ne_of_lt (blk_lt (g := gb280) (o := .cells #[.int .i64 a0_0, .int .i64 a0_1, .int .i64 a0_2, .int .i64 a0_3, .bool a0_4, .int .i64 a0_5, .int .i64 a0_6, .int .i64 a0_7, .int .i64 a0_8, .int .i64 a0_9, .int .i64 a0_10, .int .i64 a0_11, .int .i64 a0_12, .int .i64 a0_13] 48 (0, 0)) (by (with_reducible repeat (first | refine blk_drewN ?_ _ | refine blk_drew ?_ | refine blk_alloc ?_ _)); exact BK280.out)) : gb280 ≠ gb283)); have n6_ := Aside0.mk ((by rw [hg]; exact Nat.ne_of_gt (blk_lt (g := gb280) (o := .cells #[.int .i64 a0_0, .int .i64 a0_1, .int .i64 a0_2, .int .i64 a0_3, .bool a0_4, .int .i64 a0_5, .int .i64 a0_6, .int .i64 a0_7, .int .i64 a0_8, .int .i64 a0_9, .int .i64 a0_10, .int .i64 a0_11, .int .i64 a0_12, .int .i64 a0_13] 48 (0, 0)) (by (with_reducible repeat (first | refine blk_drewN ?_ _ | refine blk_drew ?_ | refine blk_alloc ?_ _)); exact BK280.out)) : gb283 ≠ gb280)); clear BK280; clear HB; have BK280 := n0_; have HB := n1_; have BK283 := n2_; have GW283 := n3_; have GE283 := n4_; have NB280_283 := n5_; have NB283_280 := n6_; clear n0_ n1_ n2_ n3_ n4_ n5_ n6_; clear hb hbox hg; have hnb106 := NB283_280.out; have hnc106 := NB280_283.out; have hcz107_0 : w105.cell? ⟨gb283, 0, none⟩ = some (.int .i64 0) := (blk_cell BK283.out 0).trans rfl; have hcz107_1 : w105.cell? ⟨gb283, 1, none⟩ = some (.int .i64 0) := (blk_cell BK283.out 1).trans rfl; have hcz107_2 : w105.cell? ⟨gb283, 2, none⟩ = some (.int .i64 0) := (blk_cell BK283.out 2).trans rfl; have hcz107_3 : w105.cell? ⟨gb283, 3, none⟩ = some (.int .i64 0) := (blk_cell BK283.out 3).trans rfl; have hcz107_4 : w105.cell? ⟨gb283, 4, none⟩ = some (.bool false) := (blk_cell BK283.out 4).trans rfl; have hcz107_5 : w105.cell? ⟨gb283, 5, none⟩ = some (.int .i64 0) := (blk_cell BK283.out 5).trans rfl; have hcz107_6 : w105.cell? ⟨gb283, 6, none⟩ = some (.int .i64 0) := (blk_cell BK283.out 6).trans rfl; have hcz107_7 : w105.cell? ⟨gb283, 7, none⟩ = some (.int .i64 0) := (blk_cell BK283.out 7).trans rfl; have hcz107_8 : w105.cell? ⟨gb283, 8, none⟩ = some (.int .i64 0) := (blk_cell BK283.out 8).trans rfl; have hcz107_9 : w105.cell? ⟨gb283, 9, none⟩ = some (.int .i64 0) := (blk_cell BK283.out 9).trans rfl; have hcz107_10 : w105.cell? ⟨gb283, 10, none⟩ = some (.int .i64 0) := (blk_cell BK283.out 10).trans rfl; have hcz107_11 : w105.cell? ⟨gb283, 11, none⟩ = some (.int .i64 0) := (blk_cell BK283.out 11).trans rfl; have hcz107_12 : w105.cell? ⟨gb283, 12, none⟩ = some (.int .i64 0) := (blk_cell BK283.out 12).trans rfl; have hcz107_13 : w105.cell? ⟨gb283, 13, none⟩ = some (.int .i64 0) := (blk_cell BK283.out 13).trans rfl; have hfz107_0 := blk_frozen BK283.out 0; have hfz107_1 := blk_frozen BK283.out 1; have hfz107_2 := blk_frozen BK283.out 2; have hfz107_3 := blk_frozen BK283.out 3; have hfz107_4 := blk_frozen BK283.out 4; have hfz107_5 := blk_frozen BK283.out 5; have hfz107_6 := blk_frozen BK283.out 6; have hfz107_7 := blk_frozen BK283.out 7; have hfz107_8 := blk_frozen BK283.out 8; have hfz107_9 := blk_frozen BK283.out 9; have hfz107_10 := blk_frozen BK283.out 10; have hfz107_11 := blk_frozen BK283.out 11; have hfz107_12 := blk_frozen BK283.out 12; have hfz107_13 := blk_frozen BK283.out 13; have hcz108_0 : w105.cell? ⟨gb280, 0, none⟩ = some (.int .i64 a0_0) := (blk_cell BK280.out 0).trans rfl; have hcz108_1 : w105.cell? ⟨gb280, 1, none⟩ = some (.int .i64 a0_1) := (blk_cell BK280.out 1).trans rfl; have hcz108_2 : w105.cell? ⟨gb280, 2, none⟩ = some (.int .i64 a0_2) := (blk_cell BK280.out 2).trans rfl; have hcz108_3 : w105.cell? ⟨gb280, 3, none⟩ = some (.int .i64 a0_3) := (blk_cell BK280.out 3).trans rfl; have hcz108_4 : w105.cell? ⟨gb280, 4, none⟩ = some (.bool a0_4) := (blk_cell BK280.out 4).trans rfl; have hcz108_5 : w105.cell? ⟨gb280, 5, none⟩ = some (.int .i64 a0_5) := (blk_cell BK280.out 5).trans rfl; have hcz108_6 : w105.cell? ⟨gb280, 6, none⟩ = some (.int .i64 a0_6) := (blk_cell BK280.out 6).trans rfl; have hcz108_7 : w105.cell? ⟨gb280, 7, none⟩ = some (.int .i64 a0_7) := (blk_cell BK280.out 7).trans rfl; have hcz108_8 : w105.cell? ⟨gb280, 8, none⟩ = some (.int .i64 a0_8) := (blk_cell BK280.out 8).trans rfl; have hcz108_9 : w105.cell? ⟨gb280, 9, none⟩ = some (.int .i64 a0_9) := (blk_cell BK280.out 9).trans rfl; have hcz108_10 : w105.cell? ⟨gb280, 10, none⟩ = some (.int .i64 a0_10) := (blk_cell BK280.out 10).trans rfl; have hcz108_11 : w105.cell? ⟨gb280, 11, none⟩ = some (.int .i64 a0_11) := (blk_cell BK280.out 11).trans rfl; have hcz108_12 : w105.cell? ⟨gb280, 12, none⟩ = some (.int .i64 a0_12) := (blk_cell BK280.out 12).trans rfl; have hcz108_13 : w105.cell? ⟨gb280, 13, none⟩ = some (.int .i64 a0_13) := (blk_cell BK280.out 13).trans rfl; have hfz108_0 := blk_frozen BK280.out 0; have hfz108_1 := blk_frozen BK280.out 1; have hfz108_2 := blk_frozen BK280.out 2; have hfz108_3 := blk_frozen BK280.out 3; have hfz108_4 := blk_frozen BK280.out 4; have hfz108_5 := blk_frozen BK280.out 5; have hfz108_6 := blk_frozen BK280.out 6; have hfz108_7 := blk_frozen BK280.out 7; have hfz108_8 := blk_frozen BK280.out 8; have hfz108_9 := blk_frozen BK280.out 9; have hfz108_10 := blk_frozen BK280.out 10; have hfz108_11 := blk_frozen BK280.out 11; have hfz108_12 := blk_frozen BK280.out 12; have hfz108_13 := blk_frozen BK280.out 13))
              go_ret
              exact ⟨by first | rfl | (simp [errW_none, errW_some] <;> rfl) | (simp [*, errW_none, errW_some] <;> rfl), by repeat (first | (with_reducible first | exact HB.out | apply below_alloc | apply pw_below_drewN | apply below_drew1 | refine below_set ?_ GE280.out | refine below_set ?_ GE283.out) | exact HB.out)⟩

/-! impl_TaskOk, told plainly -/
theorem p_in_eq (a b c : Int) : impl_in.f a b c = some (decide (b ≤ a ∧ a ≤ c)) := by
  unfold impl_in.f
  by_cases h : a ≥ b
  · rw [if_pos h]; simp [show b ≤ a from h]
  · rw [if_neg h]; simp; omega
theorem p_nice_eq (a : Int) : impl_NiceOk.f a = some (decide (-4 ≤ a ∧ a ≤ 4)) := by
  unfold impl_NiceOk.f
  rw [p_in_eq]
  rfl
theorem p_share_eq (q p : Int) : impl_ShareOk.f q p = some (decide (ShareP q p)) := by
  unfold impl_ShareOk.f ShareP
  simp only [p_in_eq, Option.bind_some, decide_eq_true_eq]
  by_cases h : 1 ≤ p ∧ p ≤ 40
  · simp only [h, and_self, if_true, true_and]
  · simp only [h, if_false, false_and, decide_false]
theorem p_impl_tk (a0 a1 a2 a3 : Int) (a4 : Bool) (a5 a6 a7 a8 a9 a10 a11 a12 a13 : Int) : impl_TaskOk0.f 3 a0 a1 a2 a3 a4 a5 a6 a7 a8 a9 a10 a11 a12 a13 = some (decide (TaskP a0 a1 a2 a3 a5 a6 a7 a8 a9 a10 a11 a12 a13)) := by
  simp only [impl_TaskOk0.f, impl_TaskOk0.j0, impl_TaskOk0.j1, impl_TaskOk0.j2, impl_TaskOk0.j3, impl_isNo.f, impl_isUntil.f, impl_isSeq.f, p_share_eq, p_nice_eq, p_in_eq, Option.bind_some, decide_eq_true_eq, beq_self_eq_true, Bool.true_and, Bool.and_true, mn, dBeq, dBne, dAnd, dFalse, dTrue, dIte, Bool.false_eq_true, if_true, if_false]
  refine congrArg some (decide_eq_decide.2 ?_)
  unfold TaskP ShareP
  simp only [decide_eq_true_eq, and_false, or_false, false_or, Classical.not_not]
  have hs : ∀ X : Prop, (a3 = 1 ∧ X ∨ ¬a3 = 1 ∧ a3 = 2 ∧ X) ↔ ((1 ≤ a3 ∧ a3 ≤ 2) ∧ X) := by
    intro X
    by_cases h : a3 = 1
    · simp only [h, true_and, not_true_eq_false, false_and, or_false]
      exact ⟨fun x => ⟨by omega, x⟩, fun x => x.2⟩
    · simp only [h, false_and, false_or, not_false_eq_true, true_and]
      exact ⟨fun x => ⟨by omega, x.2⟩, fun x => ⟨by omega, x.2⟩⟩
  simp only [hs]
  refine and_congr_right fun _ => and_congr_right fun _ => and_congr_right fun _ => ?_
  by_cases h1 : a1 = 1
  · subst h1
    simp only [true_and, not_true_eq_false, false_and, or_false, Int.reduceEq]
    omega
  · by_cases h2 : a1 = 2
    · subst h2
      simp only [true_and, not_true_eq_false, not_false_eq_true, false_and, or_false, false_or, Int.reduceEq]
      omega
    · by_cases h3 : a1 = 3
      · subst h3
        simp only [true_and, not_true_eq_false, not_false_eq_true, false_and, or_false, false_or, Int.reduceEq]
        omega
      · simp only [h1, h2, h3, true_and, not_true_eq_false, not_false_eq_true, false_and, or_false, false_or]
-- WRAP rounds=no
def impl_TaskOk.f (a0_0 : Int) (a0_1 : Int) (a0_2 : Int) (a0_3 : Int) (a0_4 : Bool) (a0_5 : Int) (a0_6 : Int) (a0_7 : Int) (a0_8 : Int) (a0_9 : Int) (a0_10 : Int) (a0_11 : Int) (a0_12 : Int) (a0_13 : Int) : Option (Bool) := some (decide (TaskP a0_0 a0_1 a0_2 a0_3 a0_5 a0_6 a0_7 a0_8 a0_9 a0_10 a0_11 a0_12 a0_13))
theorem impl_TaskOk.calls (a0_0 : Int) (a0_1 : Int) (a0_2 : Int) (a0_3 : Int) (a0_4 : Bool) (a0_5 : Int) (a0_6 : Int) (a0_7 : Int) (a0_8 : Int) (a0_9 : Int) (a0_10 : Int) (a0_11 : Int) (a0_12 : Int) (a0_13 : Int) (r : Bool) (w : World) (h : impl_TaskOk.f a0_0 a0_1 a0_2 a0_3 a0_4 a0_5 a0_6 a0_7 a0_8 a0_9 a0_10 a0_11 a0_12 a0_13 = some r) :
    Calls Try.prog 36 #[.agg #[.int .i64 a0_0, .int .i64 a0_1, .int .i64 a0_2, .int .i64 a0_3, .bool a0_4, .int .i64 a0_5, .int .i64 a0_6, .int .i64 a0_7, .int .i64 a0_8, .int .i64 a0_9, .int .i64 a0_10, .int .i64 a0_11, .int .i64 a0_12, .int .i64 a0_13]] w fun e w' => e = .returned (.bool r) ∧ Below w.heap.size w w' := impl_TaskOk0.calls 3 a0_0 a0_1 a0_2 a0_3 a0_4 a0_5 a0_6 a0_7 a0_8 a0_9 a0_10 a0_11 a0_12 a0_13 r w ((p_impl_tk a0_0 a0_1 a0_2 a0_3 a0_4 a0_5 a0_6 a0_7 a0_8 a0_9 a0_10 a0_11 a0_12 a0_13).trans h)

end Go.Proofs.Ytbcpjbgcmkifiaa.Print
