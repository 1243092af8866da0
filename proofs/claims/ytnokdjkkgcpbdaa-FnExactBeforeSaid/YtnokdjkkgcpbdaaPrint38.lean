/- Go functions as plain Lean functions, and that the Go code answers just as these, wherever they answer. Conditions: those of each theorem. Written by a program of this session (wip/patch.py). -/
import Derived.Test.YtnokdjkkgcpbdaaPrint0
import Derived.Test.YtnokdjkkgcpbdaaPrint10
import Derived.Test.YtnokdjkkgcpbdaaPrint33
import Derived.Test.YtnokdjkkgcpbdaaPrint37
namespace Go.Proofs.Ytnokdjkkgcpbdaa.Print
open Go.RowKit Go.Proofs.Ytnokdjkkgcpbdaa.Base Go.Proofs.YtnokdjkkgcpbdaaW.PrintWords Go.Proofs.YtnokdjkkgcpbdaaW.PrintLast Go.Proofs.YtnokdjkkgcpbdaaW.PrintMore
attribute [local go_sem] max2_int min2_int max_two min_two max_three min_three max_four min_four   -- for this text's walks alone
set_option linter.unusedVariables false
set_option linter.unusedSimpArgs false

/-! ### laws_FnExactBefore: function 10 -/
def laws_FnExactBefore.f (k : Nat) (a0_0 : Int) (a0_1 : Int) (a0_2 : Int) (a0_3 : Int) (a0_4 : Bool) (a0_5 : Int) (a0_6 : Int) (a0_7 : Int) (a0_8 : Int) (a0_9 : Int) (a0_10 : Int) (a0_11 : Int) (a0_12 : Int) (a0_13 : Int) (a1_0 : Int) (a1_1 : Int) (a1_2 : Int) (a1_3 : Int) (a1_4 : Bool) (a1_5 : Int) (a1_6 : Int) (a1_7 : Int) (a1_8 : Int) (a1_9 : Int) (a1_10 : Int) (a1_11 : Int) (a1_12 : Int) (a1_13 : Int) : Option (Bool) := (laws_toTask.f a0_0 a0_1 a0_2 a0_3 a0_4 a0_5 a0_6 a0_7 a0_8 a0_9 a0_10 a0_11 a0_12 a0_13).bind fun bt690 => ((laws_toTask.f a1_0 a1_1 a1_2 a1_3 a1_4 a1_5 a1_6 a1_7 a1_8 a1_9 a1_10 a1_11 a1_12 a1_13).bind fun bt704 => ((spec_Before.f k bt690.1 bt690.2.1 bt690.2.2.1 bt690.2.2.2.1 bt690.2.2.2.2.1 bt690.2.2.2.2.2.1 bt690.2.2.2.2.2.2.1 bt690.2.2.2.2.2.2.2.1 bt690.2.2.2.2.2.2.2.2.1 bt690.2.2.2.2.2.2.2.2.2.1 bt690.2.2.2.2.2.2.2.2.2.2.1 bt690.2.2.2.2.2.2.2.2.2.2.2.1 bt690.2.2.2.2.2.2.2.2.2.2.2.2.1 bt690.2.2.2.2.2.2.2.2.2.2.2.2.2 bt704.1 bt704.2.1 bt704.2.2.1 bt704.2.2.2.1 bt704.2.2.2.2.1 bt704.2.2.2.2.2.1 bt704.2.2.2.2.2.2.1 bt704.2.2.2.2.2.2.2.1 bt704.2.2.2.2.2.2.2.2.1 bt704.2.2.2.2.2.2.2.2.2.1 bt704.2.2.2.2.2.2.2.2.2.2.1 bt704.2.2.2.2.2.2.2.2.2.2.2.1 bt704.2.2.2.2.2.2.2.2.2.2.2.2.1 bt704.2.2.2.2.2.2.2.2.2.2.2.2.2).bind fun t718 => ((laws_toTask.f a0_0 a0_1 a0_2 a0_3 a0_4 a0_5 a0_6 a0_7 a0_8 a0_9 a0_10 a0_11 a0_12 a0_13).bind fun bt719 => ((laws_toTask.f a1_0 a1_1 a1_2 a1_3 a1_4 a1_5 a1_6 a1_7 a1_8 a1_9 a1_10 a1_11 a1_12 a1_13).bind fun bt733 => ((impl_Before.f k bt719.1 bt719.2.1 bt719.2.2.1 bt719.2.2.2.1 bt719.2.2.2.2.1 bt719.2.2.2.2.2.1 bt719.2.2.2.2.2.2.1 bt719.2.2.2.2.2.2.2.1 bt719.2.2.2.2.2.2.2.2.1 bt719.2.2.2.2.2.2.2.2.2.1 bt719.2.2.2.2.2.2.2.2.2.2.1 bt719.2.2.2.2.2.2.2.2.2.2.2.1 bt719.2.2.2.2.2.2.2.2.2.2.2.2.1 bt719.2.2.2.2.2.2.2.2.2.2.2.2.2 bt733.1 bt733.2.1 bt733.2.2.1 bt733.2.2.2.1 bt733.2.2.2.2.1 bt733.2.2.2.2.2.1 bt733.2.2.2.2.2.2.1 bt733.2.2.2.2.2.2.2.1 bt733.2.2.2.2.2.2.2.2.1 bt733.2.2.2.2.2.2.2.2.2.1 bt733.2.2.2.2.2.2.2.2.2.2.1 bt733.2.2.2.2.2.2.2.2.2.2.2.1 bt733.2.2.2.2.2.2.2.2.2.2.2.2.1 bt733.2.2.2.2.2.2.2.2.2.2.2.2.2).bind fun t747 => (if (t747 != t718) = true then (some false) else (some true)))))))
theorem laws_FnExactBefore.mono : ∀ a0 a1 a2 a3 a4 a5 a6 a7 a8 a9 a10 a11 a12 a13 a14 a15 a16 a17 a18 a19 a20 a21 a22 a23 a24 a25 a26 a27 k, LeO (laws_FnExactBefore.f k a0 a1 a2 a3 a4 a5 a6 a7 a8 a9 a10 a11 a12 a13 a14 a15 a16 a17 a18 a19 a20 a21 a22 a23 a24 a25 a26 a27) (laws_FnExactBefore.f (k + 1) a0 a1 a2 a3 a4 a5 a6 a7 a8 a9 a10 a11 a12 a13 a14 a15 a16 a17 a18 a19 a20 a21 a22 a23 a24 a25 a26 a27) := by
  intro a0 a1 a2 a3 a4 a5 a6 a7 a8 a9 a10 a11 a12 a13 a14 a15 a16 a17 a18 a19 a20 a21 a22 a23 a24 a25 a26 a27 k
  unfold laws_FnExactBefore.f
  repeat' first
      | (with_reducible exact impl_Before.mono _ _ _ _ _ _ _ _ _ _ _ _ _ _ _ _ _ _ _ _ _ _ _ _ _ _ _ _ _)
      | (with_reducible exact spec_Before.mono _ _ _ _ _ _ _ _ _ _ _ _ _ _ _ _ _ _ _ _ _ _ _ _ _ _ _ _ _)
      | (with_reducible exact LeO.refl _)
      | (with_reducible exact LeO.none _)
      | (with_reducible refine LeO.ite ?_ ?_)
      | (with_reducible refine LeO.bind ?_ (fun _ => ?_))
      | exact impl_Before.mono _ _ _ _ _ _ _ _ _ _ _ _ _ _ _ _ _ _ _ _ _ _ _ _ _ _ _ _ _
      | exact spec_Before.mono _ _ _ _ _ _ _ _ _ _ _ _ _ _ _ _ _ _ _ _ _ _ _ _ _ _ _ _ _
      | exact LeO.none _
      | refine LeO.ite ?_ ?_
      | refine LeO.bind ?_ (fun _ => ?_)
set_option maxHeartbeats 8000000 in
set_option maxRecDepth 100000 in
theorem laws_FnExactBefore.calls (k : Nat) (a0_0 : Int) (a0_1 : Int) (a0_2 : Int) (a0_3 : Int) (a0_4 : Bool) (a0_5 : Int) (a0_6 : Int) (a0_7 : Int) (a0_8 : Int) (a0_9 : Int) (a0_10 : Int) (a0_11 : Int) (a0_12 : Int) (a0_13 : Int) (a1_0 : Int) (a1_1 : Int) (a1_2 : Int) (a1_3 : Int) (a1_4 : Bool) (a1_5 : Int) (a1_6 : Int) (a1_7 : Int) (a1_8 : Int) (a1_9 : Int) (a1_10 : Int) (a1_11 : Int) (a1_12 : Int) (a1_13 : Int) (r : Bool) (w : World) (h : laws_FnExactBefore.f k a0_0 a0_1 a0_2 a0_3 a0_4 a0_5 a0_6 a0_7 a0_8 a0_9 a0_10 a0_11 a0_12 a0_13 a1_0 a1_1 a1_2 a1_3 a1_4 a1_5 a1_6 a1_7 a1_8 a1_9 a1_10 a1_11 a1_12 a1_13 = some r) :
    Calls Try.prog 10 #[.agg #[.int .i64 a0_0, .int .i64 a0_1, .int .i64 a0_2, .int .i64 a0_3, .bool a0_4, .int .i64 a0_5, .int .i64 a0_6, .int .i64 a0_7, .int .i64 a0_8, .int .i64 a0_9, .int .i64 a0_10, .int .i64 a0_11, .int .i64 a0_12, .int .i64 a0_13], .agg #[.int .i64 a1_0, .int .i64 a1_1, .int .i64 a1_2, .int .i64 a1_3, .bool a1_4, .int .i64 a1_5, .int .i64 a1_6, .int .i64 a1_7, .int .i64 a1_8, .int .i64 a1_9, .int .i64 a1_10, .int .i64 a1_11, .int .i64 a1_12, .int .i64 a1_13]] w fun e w' => e = .returned (.bool r) ∧ Below w.heap.size w w' := by
  have hu33 := Try.underlying33
  have HB := Aside0.mk (Below.refl w.heap.size w)
  have H : ((laws_toTask.f a0_0 a0_1 a0_2 a0_3 a0_4 a0_5 a0_6 a0_7 a0_8 a0_9 a0_10 a0_11 a0_12 a0_13).bind fun bt690 => ((laws_toTask.f a1_0 a1_1 a1_2 a1_3 a1_4 a1_5 a1_6 a1_7 a1_8 a1_9 a1_10 a1_11 a1_12 a1_13).bind fun bt704 => ((spec_Before.f k bt690.1 bt690.2.1 bt690.2.2.1 bt690.2.2.2.1 bt690.2.2.2.2.1 bt690.2.2.2.2.2.1 bt690.2.2.2.2.2.2.1 bt690.2.2.2.2.2.2.2.1 bt690.2.2.2.2.2.2.2.2.1 bt690.2.2.2.2.2.2.2.2.2.1 bt690.2.2.2.2.2.2.2.2.2.2.1 bt690.2.2.2.2.2.2.2.2.2.2.2.1 bt690.2.2.2.2.2.2.2.2.2.2.2.2.1 bt690.2.2.2.2.2.2.2.2.2.2.2.2.2 bt704.1 bt704.2.1 bt704.2.2.1 bt704.2.2.2.1 bt704.2.2.2.2.1 bt704.2.2.2.2.2.1 bt704.2.2.2.2.2.2.1 bt704.2.2.2.2.2.2.2.1 bt704.2.2.2.2.2.2.2.2.1 bt704.2.2.2.2.2.2.2.2.2.1 bt704.2.2.2.2.2.2.2.2.2.2.1 bt704.2.2.2.2.2.2.2.2.2.2.2.1 bt704.2.2.2.2.2.2.2.2.2.2.2.2.1 bt704.2.2.2.2.2.2.2.2.2.2.2.2.2).bind fun t718 => ((laws_toTask.f a0_0 a0_1 a0_2 a0_3 a0_4 a0_5 a0_6 a0_7 a0_8 a0_9 a0_10 a0_11 a0_12 a0_13).bind fun bt719 => ((laws_toTask.f a1_0 a1_1 a1_2 a1_3 a1_4 a1_5 a1_6 a1_7 a1_8 a1_9 a1_10 a1_11 a1_12 a1_13).bind fun bt733 => ((impl_Before.f k bt719.1 bt719.2.1 bt719.2.2.1 bt719.2.2.2.1 bt719.2.2.2.2.1 bt719.2.2.2.2.2.1 bt719.2.2.2.2.2.2.1 bt719.2.2.2.2.2.2.2.1 bt719.2.2.2.2.2.2.2.2.1 bt719.2.2.2.2.2.2.2.2.2.1 bt719.2.2.2.2.2.2.2.2.2.2.1 bt719.2.2.2.2.2.2.2.2.2.2.2.1 bt719.2.2.2.2.2.2.2.2.2.2.2.2.1 bt719.2.2.2.2.2.2.2.2.2.2.2.2.2 bt733.1 bt733.2.1 bt733.2.2.1 bt733.2.2.2.1 bt733.2.2.2.2.1 bt733.2.2.2.2.2.1 bt733.2.2.2.2.2.2.1 bt733.2.2.2.2.2.2.2.1 bt733.2.2.2.2.2.2.2.2.1 bt733.2.2.2.2.2.2.2.2.2.1 bt733.2.2.2.2.2.2.2.2.2.2.1 bt733.2.2.2.2.2.2.2.2.2.2.2.1 bt733.2.2.2.2.2.2.2.2.2.2.2.2.1 bt733.2.2.2.2.2.2.2.2.2.2.2.2.2).bind fun t747 => (if (t747 != t718) = true then (some false) else (some true)))))))) = some r := h
  clear h
  replace H := Option.bind_eq_some_iff.mp H
  obtain ⟨⟨t690, t691, t692, t693, t694, t695, t696, t697, t698, t699, t700, t701, t702, t703⟩, A30, H⟩ := H
  replace H : ((laws_toTask.f a1_0 a1_1 a1_2 a1_3 a1_4 a1_5 a1_6 a1_7 a1_8 a1_9 a1_10 a1_11 a1_12 a1_13).bind fun bt704 => ((spec_Before.f k t690 t691 t692 t693 t694 t695 t696 t697 t698 t699 t700 t701 t702 t703 bt704.1 bt704.2.1 bt704.2.2.1 bt704.2.2.2.1 bt704.2.2.2.2.1 bt704.2.2.2.2.2.1 bt704.2.2.2.2.2.2.1 bt704.2.2.2.2.2.2.2.1 bt704.2.2.2.2.2.2.2.2.1 bt704.2.2.2.2.2.2.2.2.2.1 bt704.2.2.2.2.2.2.2.2.2.2.1 bt704.2.2.2.2.2.2.2.2.2.2.2.1 bt704.2.2.2.2.2.2.2.2.2.2.2.2.1 bt704.2.2.2.2.2.2.2.2.2.2.2.2.2).bind fun t718 => ((laws_toTask.f a0_0 a0_1 a0_2 a0_3 a0_4 a0_5 a0_6 a0_7 a0_8 a0_9 a0_10 a0_11 a0_12 a0_13).bind fun bt719 => ((laws_toTask.f a1_0 a1_1 a1_2 a1_3 a1_4 a1_5 a1_6 a1_7 a1_8 a1_9 a1_10 a1_11 a1_12 a1_13).bind fun bt733 => ((impl_Before.f k bt719.1 bt719.2.1 bt719.2.2.1 bt719.2.2.2.1 bt719.2.2.2.2.1 bt719.2.2.2.2.2.1 bt719.2.2.2.2.2.2.1 bt719.2.2.2.2.2.2.2.1 bt719.2.2.2.2.2.2.2.2.1 bt719.2.2.2.2.2.2.2.2.2.1 bt719.2.2.2.2.2.2.2.2.2.2.1 bt719.2.2.2.2.2.2.2.2.2.2.2.1 bt719.2.2.2.2.2.2.2.2.2.2.2.2.1 bt719.2.2.2.2.2.2.2.2.2.2.2.2.2 bt733.1 bt733.2.1 bt733.2.2.1 bt733.2.2.2.1 bt733.2.2.2.2.1 bt733.2.2.2.2.2.1 bt733.2.2.2.2.2.2.1 bt733.2.2.2.2.2.2.2.1 bt733.2.2.2.2.2.2.2.2.1 bt733.2.2.2.2.2.2.2.2.2.1 bt733.2.2.2.2.2.2.2.2.2.2.1 bt733.2.2.2.2.2.2.2.2.2.2.2.1 bt733.2.2.2.2.2.2.2.2.2.2.2.2.1 bt733.2.2.2.2.2.2.2.2.2.2.2.2.2).bind fun t747 => (if (t747 != t718) = true then (some false) else (some true))))))) = some r := H
  have A3 := Aside0.mk A30
  clear A30
  replace H := Option.bind_eq_some_iff.mp H
  obtain ⟨⟨t704, t705, t706, t707, t708, t709, t710, t711, t712, t713, t714, t715, t716, t717⟩, A40, H⟩ := H
  replace H : ((spec_Before.f k t690 t691 t692 t693 t694 t695 t696 t697 t698 t699 t700 t701 t702 t703 t704 t705 t706 t707 t708 t709 t710 t711 t712 t713 t714 t715 t716 t717).bind fun t718 => ((laws_toTask.f a0_0 a0_1 a0_2 a0_3 a0_4 a0_5 a0_6 a0_7 a0_8 a0_9 a0_10 a0_11 a0_12 a0_13).bind fun bt719 => ((laws_toTask.f a1_0 a1_1 a1_2 a1_3 a1_4 a1_5 a1_6 a1_7 a1_8 a1_9 a1_10 a1_11 a1_12 a1_13).bind fun bt733 => ((impl_Before.f k bt719.1 bt719.2.1 bt719.2.2.1 bt719.2.2.2.1 bt719.2.2.2.2.1 bt719.2.2.2.2.2.1 bt719.2.2.2.2.2.2.1 bt719.2.2.2.2.2.2.2.1 bt719.2.2.2.2.2.2.2.2.1 bt719.2.2.2.2.2.2.2.2.2.1 bt719.2.2.2.2.2.2.2.2.2.2.1 bt719.2.2.2.2.2.2.2.2.2.2.2.1 bt719.2.2.2.2.2.2.2.2.2.2.2.2.1 bt719.2.2.2.2.2.2.2.2.2.2.2.2.2 bt733.1 bt733.2.1 bt733.2.2.1 bt733.2.2.2.1 bt733.2.2.2.2.1 bt733.2.2.2.2.2.1 bt733.2.2.2.2.2.2.1 bt733.2.2.2.2.2.2.2.1 bt733.2.2.2.2.2.2.2.2.1 bt733.2.2.2.2.2.2.2.2.2.1 bt733.2.2.2.2.2.2.2.2.2.2.1 bt733.2.2.2.2.2.2.2.2.2.2.2.1 bt733.2.2.2.2.2.2.2.2.2.2.2.2.1 bt733.2.2.2.2.2.2.2.2.2.2.2.2.2).bind fun t747 => (if (t747 != t718) = true then (some false) else (some true)))))) = some r := H
  have A4 := Aside0.mk A40
  clear A40
  replace H := Option.bind_eq_some_iff.mp H
  obtain ⟨t718, A50, H⟩ := H
  replace H : ((laws_toTask.f a0_0 a0_1 a0_2 a0_3 a0_4 a0_5 a0_6 a0_7 a0_8 a0_9 a0_10 a0_11 a0_12 a0_13).bind fun bt719 => ((laws_toTask.f a1_0 a1_1 a1_2 a1_3 a1_4 a1_5 a1_6 a1_7 a1_8 a1_9 a1_10 a1_11 a1_12 a1_13).bind fun bt733 => ((impl_Before.f k bt719.1 bt719.2.1 bt719.2.2.1 bt719.2.2.2.1 bt719.2.2.2.2.1 bt719.2.2.2.2.2.1 bt719.2.2.2.2.2.2.1 bt719.2.2.2.2.2.2.2.1 bt719.2.2.2.2.2.2.2.2.1 bt719.2.2.2.2.2.2.2.2.2.1 bt719.2.2.2.2.2.2.2.2.2.2.1 bt719.2.2.2.2.2.2.2.2.2.2.2.1 bt719.2.2.2.2.2.2.2.2.2.2.2.2.1 bt719.2.2.2.2.2.2.2.2.2.2.2.2.2 bt733.1 bt733.2.1 bt733.2.2.1 bt733.2.2.2.1 bt733.2.2.2.2.1 bt733.2.2.2.2.2.1 bt733.2.2.2.2.2.2.1 bt733.2.2.2.2.2.2.2.1 bt733.2.2.2.2.2.2.2.2.1 bt733.2.2.2.2.2.2.2.2.2.1 bt733.2.2.2.2.2.2.2.2.2.2.1 bt733.2.2.2.2.2.2.2.2.2.2.2.1 bt733.2.2.2.2.2.2.2.2.2.2.2.2.1 bt733.2.2.2.2.2.2.2.2.2.2.2.2.2).bind fun t747 => (if (t747 != t718) = true then (some false) else (some true))))) = some r := H
  have A5 := Aside0.mk A50
  clear A50
  replace H := Option.bind_eq_some_iff.mp H
  obtain ⟨⟨t719, t720, t721, t722, t723, t724, t725, t726, t727, t728, t729, t730, t731, t732⟩, A60, H⟩ := H
  replace H : ((laws_toTask.f a1_0 a1_1 a1_2 a1_3 a1_4 a1_5 a1_6 a1_7 a1_8 a1_9 a1_10 a1_11 a1_12 a1_13).bind fun bt733 => ((impl_Before.f k t719 t720 t721 t722 t723 t724 t725 t726 t727 t728 t729 t730 t731 t732 bt733.1 bt733.2.1 bt733.2.2.1 bt733.2.2.2.1 bt733.2.2.2.2.1 bt733.2.2.2.2.2.1 bt733.2.2.2.2.2.2.1 bt733.2.2.2.2.2.2.2.1 bt733.2.2.2.2.2.2.2.2.1 bt733.2.2.2.2.2.2.2.2.2.1 bt733.2.2.2.2.2.2.2.2.2.2.1 bt733.2.2.2.2.2.2.2.2.2.2.2.1 bt733.2.2.2.2.2.2.2.2.2.2.2.2.1 bt733.2.2.2.2.2.2.2.2.2.2.2.2.2).bind fun t747 => (if (t747 != t718) = true then (some false) else (some true)))) = some r := H
  have A6 := Aside0.mk A60
  clear A60
  replace H := Option.bind_eq_some_iff.mp H
  obtain ⟨⟨t733, t734, t735, t736, t737, t738, t739, t740, t741, t742, t743, t744, t745, t746⟩, A70, H⟩ := H
  replace H : ((impl_Before.f k t719 t720 t721 t722 t723 t724 t725 t726 t727 t728 t729 t730 t731 t732 t733 t734 t735 t736 t737 t738 t739 t740 t741 t742 t743 t744 t745 t746).bind fun t747 => (if (t747 != t718) = true then (some false) else (some true))) = some r := H
  have A7 := Aside0.mk A70
  clear A70
  replace H := Option.bind_eq_some_iff.mp H
  obtain ⟨t747, A80, H⟩ := H
  replace H : (if (t747 != t718) = true then (some false) else (some true)) = some r := H
  have A8 := Aside0.mk A80
  clear A80
  by_cases c9 : (t747 != t718) = true
  · rw [if_pos c9] at H
    have c9b0 : (t747 != t718) = true := c9
    (try (have c9b1 : decide (t747 = t718) = false := by simpa using c9))
    (try (have c9b2 : (t747 == t718) = false := by simpa using c9))
    (try (have c9b3 : ¬ (t747 = t718) := by simpa using c9))
    clear c9
    obtain rfl := Option.some.inj H
    go_enter Try.func10, Try.ntmps10
    try go_wp2_with (first | ((with_reducible refine gate_dst (N := 2) rfl ?_); refine box_event ?hg (N := 2) ?hd (cs := tk14 a0_0 a0_1 a0_2 a0_3 a0_4 a0_5 a0_6 a0_7 a0_8 a0_9 a0_10 a0_11 a0_12 a0_13) (t := 33) ?hr ?_; (case hd => rfl); (case hg => rfl); (case hr => first | (go_simp; done) | (go_simp; rfl)); intro gb688 hg w10 hbox hb; have n0_ := Aside0.mk (below_step (by repeat (first | (with_reducible first | exact HB.out | apply below_alloc | apply pw_below_drewN | apply below_drew1) | exact HB.out)) hb); have n1_ := Aside0.mk (hbox); have n2_ := Aside0.mk ((by rw [hg]; exact (below_size (by repeat (first | (with_reducible first | exact HB.out | apply below_alloc | apply pw_below_drewN | apply below_drew1) | exact HB.out))) : w.heap.size ≤ gb688)); have n3_ := Aside0.mk ((by rw [hg]; exact (below_size (by repeat (first | (with_reducible first | exact HB.out | apply below_alloc | apply pw_below_drewN | apply below_drew1) | exact HB.out))) : w.heap.size ≤ gb688)); clear HB; have HB := n0_; have BK688 := n1_; have GW688 := n2_; have GE688 := n3_; clear n0_ n1_ n2_ n3_; clear hb hbox hg) | ((with_reducible refine gate_dst (N := 3) rfl ?_); refine box_event ?hg (N := 3) ?hd (cs := tk14 a1_0 a1_1 a1_2 a1_3 a1_4 a1_5 a1_6 a1_7 a1_8 a1_9 a1_10 a1_11 a1_12 a1_13) (t := 33) ?hr ?_; (case hd => rfl); (case hg => rfl); (case hr => first | (go_simp; done) | (go_simp; rfl)); intro gb689 hg w11 hbox hb; have n0_ := Aside0.mk (blk_below (g := gb688) (o := .cells (tk14 a0_0 a0_1 a0_2 a0_3 a0_4 a0_5 a0_6 a0_7 a0_8 a0_9 a0_10 a0_11 a0_12 a0_13) 33 (0, 0)) (by (with_reducible repeat (first | refine blk_drewN ?_ _ | refine blk_drew ?_ | refine blk_alloc ?_ _)); exact BK688.out) hb); have n1_ := Aside0.mk (below_step (by repeat (first | (with_reducible first | exact HB.out | apply below_alloc | apply pw_below_drewN | apply below_drew1 | refine below_set ?_ GE688.out) | exact HB.out)) hb); have n2_ := Aside0.mk (hbox); have n3_ := Aside0.mk ((by rw [hg]; exact (below_size (by repeat (first | (with_reducible first | exact HB.out | apply below_alloc | apply pw_below_drewN | apply below_drew1 | refine below_set ?_ GE688.out) | exact HB.out))) : w.heap.size ≤ gb689)); have n4_ := Aside0.mk ((by rw [hg]; exact (below_size (by repeat (first | (with_reducible first | exact HB.out | apply below_alloc | apply pw_below_drewN | apply below_drew1 | refine below_set ?_ GE688.out) | exact HB.out))) : w.heap.size ≤ gb689)); have n5_ := Aside0.mk ((by rw [hg]; exact Nat.ne_of_lt (blk_lt (g := gb688) (o := .cells (tk14 a0_0 a0_1 a0_2 a0_3 a0_4 a0_5 a0_6 a0_7 a0_8 a0_9 a0_10 a0_11 a0_12 a0_13) 33 (0, 0)) (by (with_reducible repeat (first | refine blk_drewN ?_ _ | refine blk_drew ?_ | refine blk_alloc ?_ _)); exact BK688.out)) : gb688 ≠ gb689)); have n6_ := Aside0.mk ((by rw [hg]; exact Nat.ne_of_gt (blk_lt (g := gb688) (o := .cells (tk14 a0_0 a0_1 a0_2 a0_3 a0_4 a0_5 a0_6 a0_7 a0_8 a0_9 a0_10 a0_11 a0_12 a0_13) 33 (0, 0)) (by (with_reducible repeat (first | refine blk_drewN ?_ _ | refine blk_drew ?_ | refine blk_alloc ?_ _)); exact BK688.out)) : gb689 ≠ gb688)); clear BK688; clear HB; have BK688 := n0_; have HB := n1_; have BK689 := n2_; have GW689 := n3_; have GE689 := n4_; have NB688_689 := n5_; have NB689_688 := n6_; clear n0_ n1_ n2_ n3_ n4_ n5_ n6_; clear hb hbox hg))
    have n0_ := Aside0.mk (blk_drew BK688.out)
    have n1_ := Aside0.mk (blk_drew BK689.out)
    have n2_ := Aside0.mk (below_drew1 HB.out)
    clear BK688
    clear BK689
    clear HB
    have BK688 := n0_
    have BK689 := n1_
    have HB := n2_
    clear n0_ n1_ n2_
    refine start_ (n := 6) (S := fun w' => w'.cell? ⟨gb688, 0, none⟩ = some (.int .i64 a0_0) ∧ w'.cell? ⟨gb688, 1, none⟩ = some (.int .i64 a0_1) ∧ w'.cell? ⟨gb688, 2, none⟩ = some (.int .i64 a0_2) ∧ w'.cell? ⟨gb688, 3, none⟩ = some (.int .i64 a0_3) ∧ w'.cell? ⟨gb688, 4, none⟩ = some (.bool a0_4) ∧ w'.cell? ⟨gb688, 5, none⟩ = some (.int .i64 a0_5) ∧ w'.cell? ⟨gb688, 6, none⟩ = some (.int .i64 a0_6) ∧ w'.cell? ⟨gb688, 7, none⟩ = some (.int .i64 a0_7) ∧ w'.cell? ⟨gb688, 8, none⟩ = some (.int .i64 a0_8) ∧ w'.cell? ⟨gb688, 9, none⟩ = some (.int .i64 a0_9) ∧ w'.cell? ⟨gb688, 10, none⟩ = some (.int .i64 a0_10) ∧ w'.cell? ⟨gb688, 11, none⟩ = some (.int .i64 a0_11) ∧ w'.cell? ⟨gb688, 12, none⟩ = some (.int .i64 a0_12) ∧ w'.cell? ⟨gb688, 13, none⟩ = some (.int .i64 a0_13) ∧ w'.cell? ⟨gb689, 0, none⟩ = some (.int .i64 a1_0) ∧ w'.cell? ⟨gb689, 1, none⟩ = some (.int .i64 a1_1) ∧ w'.cell? ⟨gb689, 2, none⟩ = some (.int .i64 a1_2) ∧ w'.cell? ⟨gb689, 3, none⟩ = some (.int .i64 a1_3) ∧ w'.cell? ⟨gb689, 4, none⟩ = some (.bool a1_4) ∧ w'.cell? ⟨gb689, 5, none⟩ = some (.int .i64 a1_5) ∧ w'.cell? ⟨gb689, 6, none⟩ = some (.int .i64 a1_6) ∧ w'.cell? ⟨gb689, 7, none⟩ = some (.int .i64 a1_7) ∧ w'.cell? ⟨gb689, 8, none⟩ = some (.int .i64 a1_8) ∧ w'.cell? ⟨gb689, 9, none⟩ = some (.int .i64 a1_9) ∧ w'.cell? ⟨gb689, 10, none⟩ = some (.int .i64 a1_10) ∧ w'.cell? ⟨gb689, 11, none⟩ = some (.int .i64 a1_11) ∧ w'.cell? ⟨gb689, 12, none⟩ = some (.int .i64 a1_12) ∧ w'.cell? ⟨gb689, 13, none⟩ = some (.int .i64 a1_13)) (ds := []) #[false, false, false, false, false, false] (by kernel_rfl) rfl rfl ⟨(blk_cell BK688.out 0).trans rfl, (blk_cell BK688.out 1).trans rfl, (blk_cell BK688.out 2).trans rfl, (blk_cell BK688.out 3).trans rfl, (blk_cell BK688.out 4).trans rfl, (blk_cell BK688.out 5).trans rfl, (blk_cell BK688.out 6).trans rfl, (blk_cell BK688.out 7).trans rfl, (blk_cell BK688.out 8).trans rfl, (blk_cell BK688.out 9).trans rfl, (blk_cell BK688.out 10).trans rfl, (blk_cell BK688.out 11).trans rfl, (blk_cell BK688.out 12).trans rfl, (blk_cell BK688.out 13).trans rfl, (blk_cell BK689.out 0).trans rfl, (blk_cell BK689.out 1).trans rfl, (blk_cell BK689.out 2).trans rfl, (blk_cell BK689.out 3).trans rfl, (blk_cell BK689.out 4).trans rfl, (blk_cell BK689.out 5).trans rfl, (blk_cell BK689.out 6).trans rfl, (blk_cell BK689.out 7).trans rfl, (blk_cell BK689.out 8).trans rfl, (blk_cell BK689.out 9).trans rfl, (blk_cell BK689.out 10).trans rfl, (blk_cell BK689.out 11).trans rfl, (blk_cell BK689.out 12).trans rfl, (blk_cell BK689.out 13).trans rfl⟩ (fun hHeld => ?_)
    generalize w11.drew = w12 at BK688 BK689 HB hHeld ⊢
    refine take_ (i := 0) (N := some 7) (v := ?_) (a' := ?_) #[true, false, false, false, false, false] rfl rfl (by kernel_rfl) (fun _ _ _ h => h) (Or.inl ⟨by rfl, ?_⟩) hHeld ?_ ?_
    rotate_left
    · rintro w' ⟨s0, s1, s2, s3, s4, s5, s6, s7, s8, s9, s10, s11, s12, s13, s14, s15, s16, s17, s18, s19, s20, s21, s22, s23, s24, s25, s26, s27⟩
      go_simp
      with_reducible rfl
    rotate_left
    · simp only [Act.put, List.setIfInBounds_toArray, List.set_cons_zero, List.set_cons_succ, i64_w, i32_w]
      rfl
    refine take_ (i := 2) (N := some 9) (v := ?_) (a' := ?_) #[true, false, true, false, false, false] rfl rfl (by kernel_rfl) (fun _ _ _ h => h) (Or.inl ⟨by rfl, ?_⟩) hHeld ?_ ?_
    rotate_left
    · rintro w' ⟨s0, s1, s2, s3, s4, s5, s6, s7, s8, s9, s10, s11, s12, s13, s14, s15, s16, s17, s18, s19, s20, s21, s22, s23, s24, s25, s26, s27⟩
      go_simp
      with_reducible rfl
    rotate_left
    · simp only [Act.put, List.setIfInBounds_toArray, List.set_cons_zero, List.set_cons_succ, i64_w, i32_w]
      rfl
    refine one_ (i := 1) (N := some 8) #[true, true, true, false, false, false] rfl rfl (by kernel_rfl) (by decide) (fun K hK => ?_)
    refine goes_ Try.func25 (by kernel_rfl) rfl #[.agg #[.int .i64 a0_0, .int .i64 a0_1, .int .i64 a0_2, .int .i64 a0_3, .bool a0_4, .int .i64 a0_5, .int .i64 a0_6, .int .i64 a0_7, .int .i64 a0_8, .int .i64 a0_9, .int .i64 a0_10, .int .i64 a0_11, .int .i64 a0_12, .int .i64 a0_13]] (by rfl) rfl rfl (by (try simp only [List.map_toArray, List.map_cons, List.map_nil]); first | done | rfl | (simp only [List.length_drop, List.length_take]; rfl)) ?_
    with_reducible refine (laws_toTask.calls a0_0 a0_1 a0_2 a0_3 a0_4 a0_5 a0_6 a0_7 a0_8 a0_9 a0_10 a0_11 a0_12 a0_13 t690 t691 t692 t693 t694 t695 t696 t697 t698 t699 t700 t701 t702 t703 _ A3.out).mono ?_
    rintro e w13 ⟨rfl, hb⟩
    refine ⟨_, rfl, ?_⟩
    have n0_ := Aside0.mk (blk_below (g := gb688) (o := .cells (tk14 a0_0 a0_1 a0_2 a0_3 a0_4 a0_5 a0_6 a0_7 a0_8 a0_9 a0_10 a0_11 a0_12 a0_13) 33 (0, 0)) (by (with_reducible repeat (first | refine blk_drewN ?_ _ | refine blk_drew ?_ | refine blk_alloc ?_ _)); exact BK688.out) hb)
    have n1_ := Aside0.mk (blk_below (g := gb689) (o := .cells (tk14 a1_0 a1_1 a1_2 a1_3 a1_4 a1_5 a1_6 a1_7 a1_8 a1_9 a1_10 a1_11 a1_12 a1_13) 33 (0, 0)) (by (with_reducible repeat (first | refine blk_drewN ?_ _ | refine blk_drew ?_ | refine blk_alloc ?_ _)); exact BK689.out) hb)
    have n2_ := Aside0.mk (below_step (by repeat (first | (with_reducible first | exact HB.out | apply below_alloc | apply pw_below_drewN | apply below_drew1 | refine below_set ?_ GE688.out | refine below_set ?_ GE689.out) | exact HB.out)) hb)
    clear BK688
    clear BK689
    clear HB
    have BK688 := n0_
    have BK689 := n1_
    have HB := n2_
    clear n0_ n1_ n2_
    (try clear hb)
    (try clear hb2)
    (try clear hk)
    (try clear hi)
    refine hK.out _ _ ⟨(blk_cell BK688.out 0).trans rfl, (blk_cell BK688.out 1).trans rfl, (blk_cell BK688.out 2).trans rfl, (blk_cell BK688.out 3).trans rfl, (blk_cell BK688.out 4).trans rfl, (blk_cell BK688.out 5).trans rfl, (blk_cell BK688.out 6).trans rfl, (blk_cell BK688.out 7).trans rfl, (blk_cell BK688.out 8).trans rfl, (blk_cell BK688.out 9).trans rfl, (blk_cell BK688.out 10).trans rfl, (blk_cell BK688.out 11).trans rfl, (blk_cell BK688.out 12).trans rfl, (blk_cell BK688.out 13).trans rfl, (blk_cell BK689.out 0).trans rfl, (blk_cell BK689.out 1).trans rfl, (blk_cell BK689.out 2).trans rfl, (blk_cell BK689.out 3).trans rfl, (blk_cell BK689.out 4).trans rfl, (blk_cell BK689.out 5).trans rfl, (blk_cell BK689.out 6).trans rfl, (blk_cell BK689.out 7).trans rfl, (blk_cell BK689.out 8).trans rfl, (blk_cell BK689.out 9).trans rfl, (blk_cell BK689.out 10).trans rfl, (blk_cell BK689.out 11).trans rfl, (blk_cell BK689.out 12).trans rfl, (blk_cell BK689.out 13).trans rfl⟩ (fun hHeld => ?_)
    clear hK K
    refine norm_ (a' := ?_) ?_ ?_
    rotate_left
    · show Act.put _ (some 8) _ = _
      simp only [Act.put, List.setIfInBounds_toArray, List.set_cons_zero, List.set_cons_succ, i64_w, i32_w]
      rfl
    refine one_ (i := 3) (N := some 10) #[true, true, true, true, false, false] rfl rfl (by kernel_rfl) (by decide) (fun K hK => ?_)
    refine goes_ Try.func25 (by kernel_rfl) rfl #[.agg #[.int .i64 a1_0, .int .i64 a1_1, .int .i64 a1_2, .int .i64 a1_3, .bool a1_4, .int .i64 a1_5, .int .i64 a1_6, .int .i64 a1_7, .int .i64 a1_8, .int .i64 a1_9, .int .i64 a1_10, .int .i64 a1_11, .int .i64 a1_12, .int .i64 a1_13]] (by rfl) rfl rfl (by (try simp only [List.map_toArray, List.map_cons, List.map_nil]); first | done | rfl | (simp only [List.length_drop, List.length_take]; rfl)) ?_
    with_reducible refine (laws_toTask.calls a1_0 a1_1 a1_2 a1_3 a1_4 a1_5 a1_6 a1_7 a1_8 a1_9 a1_10 a1_11 a1_12 a1_13 t704 t705 t706 t707 t708 t709 t710 t711 t712 t713 t714 t715 t716 t717 _ A4.out).mono ?_
    rintro e w14 ⟨rfl, hb⟩
    refine ⟨_, rfl, ?_⟩
    have n0_ := Aside0.mk (blk_below (g := gb688) (o := .cells (tk14 a0_0 a0_1 a0_2 a0_3 a0_4 a0_5 a0_6 a0_7 a0_8 a0_9 a0_10 a0_11 a0_12 a0_13) 33 (0, 0)) (by (with_reducible repeat (first | refine blk_drewN ?_ _ | refine blk_drew ?_ | refine blk_alloc ?_ _)); exact BK688.out) hb)
    have n1_ := Aside0.mk (blk_below (g := gb689) (o := .cells (tk14 a1_0 a1_1 a1_2 a1_3 a1_4 a1_5 a1_6 a1_7 a1_8 a1_9 a1_10 a1_11 a1_12 a1_13) 33 (0, 0)) (by (with_reducible repeat (first | refine blk_drewN ?_ _ | refine blk_drew ?_ | refine blk_alloc ?_ _)); exact BK689.out) hb)
    have n2_ := Aside0.mk (below_step (by repeat (first | (with_reducible first | exact HB.out | apply below_alloc | apply pw_below_drewN | apply below_drew1 | refine below_set ?_ GE688.out | refine below_set ?_ GE689.out) | exact HB.out)) hb)
    clear BK688
    clear BK689
    clear HB
    have BK688 := n0_
    have BK689 := n1_
    have HB := n2_
    clear n0_ n1_ n2_
    (try clear hb)
    (try clear hb2)
    (try clear hk)
    (try clear hi)
    refine hK.out _ _ ⟨(blk_cell BK688.out 0).trans rfl, (blk_cell BK688.out 1).trans rfl, (blk_cell BK688.out 2).trans rfl, (blk_cell BK688.out 3).trans rfl, (blk_cell BK688.out 4).trans rfl, (blk_cell BK688.out 5).trans rfl, (blk_cell BK688.out 6).trans rfl, (blk_cell BK688.out 7).trans rfl, (blk_cell BK688.out 8).trans rfl, (blk_cell BK688.out 9).trans rfl, (blk_cell BK688.out 10).trans rfl, (blk_cell BK688.out 11).trans rfl, (blk_cell BK688.out 12).trans rfl, (blk_cell BK688.out 13).trans rfl, (blk_cell BK689.out 0).trans rfl, (blk_cell BK689.out 1).trans rfl, (blk_cell BK689.out 2).trans rfl, (blk_cell BK689.out 3).trans rfl, (blk_cell BK689.out 4).trans rfl, (blk_cell BK689.out 5).trans rfl, (blk_cell BK689.out 6).trans rfl, (blk_cell BK689.out 7).trans rfl, (blk_cell BK689.out 8).trans rfl, (blk_cell BK689.out 9).trans rfl, (blk_cell BK689.out 10).trans rfl, (blk_cell BK689.out 11).trans rfl, (blk_cell BK689.out 12).trans rfl, (blk_cell BK689.out 13).trans rfl⟩ (fun hHeld => ?_)
    clear hK K
    refine norm_ (a' := ?_) ?_ ?_
    rotate_left
    · show Act.put _ (some 10) _ = _
      simp only [Act.put, List.setIfInBounds_toArray, List.set_cons_zero, List.set_cons_succ, i64_w, i32_w]
      rfl
    refine one_ (i := 4) (N := some 11) #[true, true, true, true, true, false] rfl rfl (by kernel_rfl) (by decide) (fun K hK => ?_)
    refine goes_ Try.func39 (by kernel_rfl) rfl #[.agg #[.int .i64 t690, .int .i64 t691, .int .i64 t692, .int .i64 t693, .bool t694, .int .i64 t695, .int .i64 t696, .int .i64 t697, .int .i64 t698, .int .i64 t699, .int .i64 t700, .int .i64 t701, .int .i64 t702, .int .i64 t703], .agg #[.int .i64 t704, .int .i64 t705, .int .i64 t706, .int .i64 t707, .bool t708, .int .i64 t709, .int .i64 t710, .int .i64 t711, .int .i64 t712, .int .i64 t713, .int .i64 t714, .int .i64 t715, .int .i64 t716, .int .i64 t717]] (by rfl) rfl rfl (by (try simp only [List.map_toArray, List.map_cons, List.map_nil]); first | done | rfl | (simp only [List.length_drop, List.length_take]; rfl)) ?_
    with_reducible refine (spec_Before.calls k t690 t691 t692 t693 t694 t695 t696 t697 t698 t699 t700 t701 t702 t703 t704 t705 t706 t707 t708 t709 t710 t711 t712 t713 t714 t715 t716 t717 t718 _ A5.out).mono ?_
    rintro e w15 ⟨rfl, hb⟩
    refine ⟨_, rfl, ?_⟩
    have n0_ := Aside0.mk (blk_below (g := gb688) (o := .cells (tk14 a0_0 a0_1 a0_2 a0_3 a0_4 a0_5 a0_6 a0_7 a0_8 a0_9 a0_10 a0_11 a0_12 a0_13) 33 (0, 0)) (by (with_reducible repeat (first | refine blk_drewN ?_ _ | refine blk_drew ?_ | refine blk_alloc ?_ _)); exact BK688.out) hb)
    have n1_ := Aside0.mk (blk_below (g := gb689) (o := .cells (tk14 a1_0 a1_1 a1_2 a1_3 a1_4 a1_5 a1_6 a1_7 a1_8 a1_9 a1_10 a1_11 a1_12 a1_13) 33 (0, 0)) (by (with_reducible repeat (first | refine blk_drewN ?_ _ | refine blk_drew ?_ | refine blk_alloc ?_ _)); exact BK689.out) hb)
    have n2_ := Aside0.mk (below_step (by repeat (first | (with_reducible first | exact HB.out | apply below_alloc | apply pw_below_drewN | apply below_drew1 | refine below_set ?_ GE688.out | refine below_set ?_ GE689.out) | exact HB.out)) hb)
    clear BK688
    clear BK689
    clear HB
    have BK688 := n0_
    have BK689 := n1_
    have HB := n2_
    clear n0_ n1_ n2_
    (try clear hb)
    (try clear hb2)
    (try clear hk)
    (try clear hi)
    refine hK.out _ _ ⟨(blk_cell BK688.out 0).trans rfl, (blk_cell BK688.out 1).trans rfl, (blk_cell BK688.out 2).trans rfl, (blk_cell BK688.out 3).trans rfl, (blk_cell BK688.out 4).trans rfl, (blk_cell BK688.out 5).trans rfl, (blk_cell BK688.out 6).trans rfl, (blk_cell BK688.out 7).trans rfl, (blk_cell BK688.out 8).trans rfl, (blk_cell BK688.out 9).trans rfl, (blk_cell BK688.out 10).trans rfl, (blk_cell BK688.out 11).trans rfl, (blk_cell BK688.out 12).trans rfl, (blk_cell BK688.out 13).trans rfl, (blk_cell BK689.out 0).trans rfl, (blk_cell BK689.out 1).trans rfl, (blk_cell BK689.out 2).trans rfl, (blk_cell BK689.out 3).trans rfl, (blk_cell BK689.out 4).trans rfl, (blk_cell BK689.out 5).trans rfl, (blk_cell BK689.out 6).trans rfl, (blk_cell BK689.out 7).trans rfl, (blk_cell BK689.out 8).trans rfl, (blk_cell BK689.out 9).trans rfl, (blk_cell BK689.out 10).trans rfl, (blk_cell BK689.out 11).trans rfl, (blk_cell BK689.out 12).trans rfl, (blk_cell BK689.out 13).trans rfl⟩ (fun hHeld => ?_)
    clear hK K
    refine norm_ (a' := ?_) ?_ ?_
    rotate_left
    · show Act.put _ (some 11) _ = _
      simp only [Act.put, List.setIfInBounds_toArray, List.set_cons_zero, List.set_cons_succ, i64_w, i32_w]
      rfl
    refine pure_ (i := 5) (N := some 5) (v := ?_) (a' := ?_) #[true, true, true, true, true, true] rfl rfl (by kernel_rfl) (fun _ _ _ h => h) (Or.inl ⟨by rfl, ?_⟩) ?_ ?_
    rotate_left
    · intro w'
      go_simp
      with_reducible rfl
    rotate_left
    · simp only [Act.put, List.setIfInBounds_toArray, List.set_cons_zero, List.set_cons_succ, i64_w, i32_w]
      rfl
    refine done_ (by kernel_rfl) ?_
    try go_wp2
    have n0_ := Aside0.mk (blk_drew BK688.out)
    have n1_ := Aside0.mk (blk_drew BK689.out)
    have n2_ := Aside0.mk (below_drew1 HB.out)
    clear BK688
    clear BK689
    clear HB
    have BK688 := n0_
    have BK689 := n1_
    have HB := n2_
    clear n0_ n1_ n2_
    refine start_ (n := 6) (S := fun w' => w'.cell? ⟨gb688, 0, none⟩ = some (.int .i64 a0_0) ∧ w'.cell? ⟨gb688, 1, none⟩ = some (.int .i64 a0_1) ∧ w'.cell? ⟨gb688, 2, none⟩ = some (.int .i64 a0_2) ∧ w'.cell? ⟨gb688, 3, none⟩ = some (.int .i64 a0_3) ∧ w'.cell? ⟨gb688, 4, none⟩ = some (.bool a0_4) ∧ w'.cell? ⟨gb688, 5, none⟩ = some (.int .i64 a0_5) ∧ w'.cell? ⟨gb688, 6, none⟩ = some (.int .i64 a0_6) ∧ w'.cell? ⟨gb688, 7, none⟩ = some (.int .i64 a0_7) ∧ w'.cell? ⟨gb688, 8, none⟩ = some (.int .i64 a0_8) ∧ w'.cell? ⟨gb688, 9, none⟩ = some (.int .i64 a0_9) ∧ w'.cell? ⟨gb688, 10, none⟩ = some (.int .i64 a0_10) ∧ w'.cell? ⟨gb688, 11, none⟩ = some (.int .i64 a0_11) ∧ w'.cell? ⟨gb688, 12, none⟩ = some (.int .i64 a0_12) ∧ w'.cell? ⟨gb688, 13, none⟩ = some (.int .i64 a0_13) ∧ w'.cell? ⟨gb689, 0, none⟩ = some (.int .i64 a1_0) ∧ w'.cell? ⟨gb689, 1, none⟩ = some (.int .i64 a1_1) ∧ w'.cell? ⟨gb689, 2, none⟩ = some (.int .i64 a1_2) ∧ w'.cell? ⟨gb689, 3, none⟩ = some (.int .i64 a1_3) ∧ w'.cell? ⟨gb689, 4, none⟩ = some (.bool a1_4) ∧ w'.cell? ⟨gb689, 5, none⟩ = some (.int .i64 a1_5) ∧ w'.cell? ⟨gb689, 6, none⟩ = some (.int .i64 a1_6) ∧ w'.cell? ⟨gb689, 7, none⟩ = some (.int .i64 a1_7) ∧ w'.cell? ⟨gb689, 8, none⟩ = some (.int .i64 a1_8) ∧ w'.cell? ⟨gb689, 9, none⟩ = some (.int .i64 a1_9) ∧ w'.cell? ⟨gb689, 10, none⟩ = some (.int .i64 a1_10) ∧ w'.cell? ⟨gb689, 11, none⟩ = some (.int .i64 a1_11) ∧ w'.cell? ⟨gb689, 12, none⟩ = some (.int .i64 a1_12) ∧ w'.cell? ⟨gb689, 13, none⟩ = some (.int .i64 a1_13)) (ds := []) #[false, false, false, false, false, false] (by kernel_rfl) rfl rfl ⟨(blk_cell BK688.out 0).trans rfl, (blk_cell BK688.out 1).trans rfl, (blk_cell BK688.out 2).trans rfl, (blk_cell BK688.out 3).trans rfl, (blk_cell BK688.out 4).trans rfl, (blk_cell BK688.out 5).trans rfl, (blk_cell BK688.out 6).trans rfl, (blk_cell BK688.out 7).trans rfl, (blk_cell BK688.out 8).trans rfl, (blk_cell BK688.out 9).trans rfl, (blk_cell BK688.out 10).trans rfl, (blk_cell BK688.out 11).trans rfl, (blk_cell BK688.out 12).trans rfl, (blk_cell BK688.out 13).trans rfl, (blk_cell BK689.out 0).trans rfl, (blk_cell BK689.out 1).trans rfl, (blk_cell BK689.out 2).trans rfl, (blk_cell BK689.out 3).trans rfl, (blk_cell BK689.out 4).trans rfl, (blk_cell BK689.out 5).trans rfl, (blk_cell BK689.out 6).trans rfl, (blk_cell BK689.out 7).trans rfl, (blk_cell BK689.out 8).trans rfl, (blk_cell BK689.out 9).trans rfl, (blk_cell BK689.out 10).trans rfl, (blk_cell BK689.out 11).trans rfl, (blk_cell BK689.out 12).trans rfl, (blk_cell BK689.out 13).trans rfl⟩ (fun hHeld => ?_)
    generalize w15.drew = w16 at BK688 BK689 HB hHeld ⊢
    refine take_ (i := 0) (N := some 12) (v := ?_) (a' := ?_) #[true, false, false, false, false, false] rfl rfl (by kernel_rfl) (fun _ _ _ h => h) (Or.inl ⟨by rfl, ?_⟩) hHeld ?_ ?_
    rotate_left
    · rintro w' ⟨s0, s1, s2, s3, s4, s5, s6, s7, s8, s9, s10, s11, s12, s13, s14, s15, s16, s17, s18, s19, s20, s21, s22, s23, s24, s25, s26, s27⟩
      go_simp
      with_reducible rfl
    rotate_left
    · simp only [Act.put, List.setIfInBounds_toArray, List.set_cons_zero, List.set_cons_succ, i64_w, i32_w]
      rfl
    refine take_ (i := 2) (N := some 14) (v := ?_) (a' := ?_) #[true, false, true, false, false, false] rfl rfl (by kernel_rfl) (fun _ _ _ h => h) (Or.inl ⟨by rfl, ?_⟩) hHeld ?_ ?_
    rotate_left
    · rintro w' ⟨s0, s1, s2, s3, s4, s5, s6, s7, s8, s9, s10, s11, s12, s13, s14, s15, s16, s17, s18, s19, s20, s21, s22, s23, s24, s25, s26, s27⟩
      go_simp
      with_reducible rfl
    rotate_left
    · simp only [Act.put, List.setIfInBounds_toArray, List.set_cons_zero, List.set_cons_succ, i64_w, i32_w]
      rfl
    refine one_ (i := 1) (N := some 13) #[true, true, true, false, false, false] rfl rfl (by kernel_rfl) (by decide) (fun K hK => ?_)
    refine goes_ Try.func25 (by kernel_rfl) rfl #[.agg #[.int .i64 a0_0, .int .i64 a0_1, .int .i64 a0_2, .int .i64 a0_3, .bool a0_4, .int .i64 a0_5, .int .i64 a0_6, .int .i64 a0_7, .int .i64 a0_8, .int .i64 a0_9, .int .i64 a0_10, .int .i64 a0_11, .int .i64 a0_12, .int .i64 a0_13]] (by rfl) rfl rfl (by (try simp only [List.map_toArray, List.map_cons, List.map_nil]); first | done | rfl | (simp only [List.length_drop, List.length_take]; rfl)) ?_
    with_reducible refine (laws_toTask.calls a0_0 a0_1 a0_2 a0_3 a0_4 a0_5 a0_6 a0_7 a0_8 a0_9 a0_10 a0_11 a0_12 a0_13 t719 t720 t721 t722 t723 t724 t725 t726 t727 t728 t729 t730 t731 t732 _ A6.out).mono ?_
    rintro e w17 ⟨rfl, hb⟩
    refine ⟨_, rfl, ?_⟩
    have n0_ := Aside0.mk (blk_below (g := gb688) (o := .cells (tk14 a0_0 a0_1 a0_2 a0_3 a0_4 a0_5 a0_6 a0_7 a0_8 a0_9 a0_10 a0_11 a0_12 a0_13) 33 (0, 0)) (by (with_reducible repeat (first | refine blk_drewN ?_ _ | refine blk_drew ?_ | refine blk_alloc ?_ _)); exact BK688.out) hb)
    have n1_ := Aside0.mk (blk_below (g := gb689) (o := .cells (tk14 a1_0 a1_1 a1_2 a1_3 a1_4 a1_5 a1_6 a1_7 a1_8 a1_9 a1_10 a1_11 a1_12 a1_13) 33 (0, 0)) (by (with_reducible repeat (first | refine blk_drewN ?_ _ | refine blk_drew ?_ | refine blk_alloc ?_ _)); exact BK689.out) hb)
    have n2_ := Aside0.mk (below_step (by repeat (first | (with_reducible first | exact HB.out | apply below_alloc | apply pw_below_drewN | apply below_drew1 | refine below_set ?_ GE688.out | refine below_set ?_ GE689.out) | exact HB.out)) hb)
    clear BK688
    clear BK689
    clear HB
    have BK688 := n0_
    have BK689 := n1_
    have HB := n2_
    clear n0_ n1_ n2_
    (try clear hb)
    (try clear hb2)
    (try clear hk)
    (try clear hi)
    refine hK.out _ _ ⟨(blk_cell BK688.out 0).trans rfl, (blk_cell BK688.out 1).trans rfl, (blk_cell BK688.out 2).trans rfl, (blk_cell BK688.out 3).trans rfl, (blk_cell BK688.out 4).trans rfl, (blk_cell BK688.out 5).trans rfl, (blk_cell BK688.out 6).trans rfl, (blk_cell BK688.out 7).trans rfl, (blk_cell BK688.out 8).trans rfl, (blk_cell BK688.out 9).trans rfl, (blk_cell BK688.out 10).trans rfl, (blk_cell BK688.out 11).trans rfl, (blk_cell BK688.out 12).trans rfl, (blk_cell BK688.out 13).trans rfl, (blk_cell BK689.out 0).trans rfl, (blk_cell BK689.out 1).trans rfl, (blk_cell BK689.out 2).trans rfl, (blk_cell BK689.out 3).trans rfl, (blk_cell BK689.out 4).trans rfl, (blk_cell BK689.out 5).trans rfl, (blk_cell BK689.out 6).trans rfl, (blk_cell BK689.out 7).trans rfl, (blk_cell BK689.out 8).trans rfl, (blk_cell BK689.out 9).trans rfl, (blk_cell BK689.out 10).trans rfl, (blk_cell BK689.out 11).trans rfl, (blk_cell BK689.out 12).trans rfl, (blk_cell BK689.out 13).trans rfl⟩ (fun hHeld => ?_)
    clear hK K
    refine norm_ (a' := ?_) ?_ ?_
    rotate_left
    · show Act.put _ (some 13) _ = _
      simp only [Act.put, List.setIfInBounds_toArray, List.set_cons_zero, List.set_cons_succ, i64_w, i32_w]
      rfl
    refine one_ (i := 3) (N := some 15) #[true, true, true, true, false, false] rfl rfl (by kernel_rfl) (by decide) (fun K hK => ?_)
    refine goes_ Try.func25 (by kernel_rfl) rfl #[.agg #[.int .i64 a1_0, .int .i64 a1_1, .int .i64 a1_2, .int .i64 a1_3, .bool a1_4, .int .i64 a1_5, .int .i64 a1_6, .int .i64 a1_7, .int .i64 a1_8, .int .i64 a1_9, .int .i64 a1_10, .int .i64 a1_11, .int .i64 a1_12, .int .i64 a1_13]] (by rfl) rfl rfl (by (try simp only [List.map_toArray, List.map_cons, List.map_nil]); first | done | rfl | (simp only [List.length_drop, List.length_take]; rfl)) ?_
    with_reducible refine (laws_toTask.calls a1_0 a1_1 a1_2 a1_3 a1_4 a1_5 a1_6 a1_7 a1_8 a1_9 a1_10 a1_11 a1_12 a1_13 t733 t734 t735 t736 t737 t738 t739 t740 t741 t742 t743 t744 t745 t746 _ A7.out).mono ?_
    rintro e w18 ⟨rfl, hb⟩
    refine ⟨_, rfl, ?_⟩
    have n0_ := Aside0.mk (blk_below (g := gb688) (o := .cells (tk14 a0_0 a0_1 a0_2 a0_3 a0_4 a0_5 a0_6 a0_7 a0_8 a0_9 a0_10 a0_11 a0_12 a0_13) 33 (0, 0)) (by (with_reducible repeat (first | refine blk_drewN ?_ _ | refine blk_drew ?_ | refine blk_alloc ?_ _)); exact BK688.out) hb)
    have n1_ := Aside0.mk (blk_below (g := gb689) (o := .cells (tk14 a1_0 a1_1 a1_2 a1_3 a1_4 a1_5 a1_6 a1_7 a1_8 a1_9 a1_10 a1_11 a1_12 a1_13) 33 (0, 0)) (by (with_reducible repeat (first | refine blk_drewN ?_ _ | refine blk_drew ?_ | refine blk_alloc ?_ _)); exact BK689.out) hb)
    have n2_ := Aside0.mk (below_step (by repeat (first | (with_reducible first | exact HB.out | apply below_alloc | apply pw_below_drewN | apply below_drew1 | refine below_set ?_ GE688.out | refine below_set ?_ GE689.out) | exact HB.out)) hb)
    clear BK688
    clear BK689
    clear HB
    have BK688 := n0_
    have BK689 := n1_
    have HB := n2_
    clear n0_ n1_ n2_
    (try clear hb)
    (try clear hb2)
    (try clear hk)
    (try clear hi)
    refine hK.out _ _ ⟨(blk_cell BK688.out 0).trans rfl, (blk_cell BK688.out 1).trans rfl, (blk_cell BK688.out 2).trans rfl, (blk_cell BK688.out 3).trans rfl, (blk_cell BK688.out 4).trans rfl, (blk_cell BK688.out 5).trans rfl, (blk_cell BK688.out 6).trans rfl, (blk_cell BK688.out 7).trans rfl, (blk_cell BK688.out 8).trans rfl, (blk_cell BK688.out 9).trans rfl, (blk_cell BK688.out 10).trans rfl, (blk_cell BK688.out 11).trans rfl, (blk_cell BK688.out 12).trans rfl, (blk_cell BK688.out 13).trans rfl, (blk_cell BK689.out 0).trans rfl, (blk_cell BK689.out 1).trans rfl, (blk_cell BK689.out 2).trans rfl, (blk_cell BK689.out 3).trans rfl, (blk_cell BK689.out 4).trans rfl, (blk_cell BK689.out 5).trans rfl, (blk_cell BK689.out 6).trans rfl, (blk_cell BK689.out 7).trans rfl, (blk_cell BK689.out 8).trans rfl, (blk_cell BK689.out 9).trans rfl, (blk_cell BK689.out 10).trans rfl, (blk_cell BK689.out 11).trans rfl, (blk_cell BK689.out 12).trans rfl, (blk_cell BK689.out 13).trans rfl⟩ (fun hHeld => ?_)
    clear hK K
    refine norm_ (a' := ?_) ?_ ?_
    rotate_left
    · show Act.put _ (some 15) _ = _
      simp only [Act.put, List.setIfInBounds_toArray, List.set_cons_zero, List.set_cons_succ, i64_w, i32_w]
      rfl
    refine one_ (i := 4) (N := some 16) #[true, true, true, true, true, false] rfl rfl (by kernel_rfl) (by decide) (fun K hK => ?_)
    refine goes_ Try.func40 (by kernel_rfl) rfl #[.agg #[.int .i64 t719, .int .i64 t720, .int .i64 t721, .int .i64 t722, .bool t723, .int .i64 t724, .int .i64 t725, .int .i64 t726, .int .i64 t727, .int .i64 t728, .int .i64 t729, .int .i64 t730, .int .i64 t731, .int .i64 t732], .agg #[.int .i64 t733, .int .i64 t734, .int .i64 t735, .int .i64 t736, .bool t737, .int .i64 t738, .int .i64 t739, .int .i64 t740, .int .i64 t741, .int .i64 t742, .int .i64 t743, .int .i64 t744, .int .i64 t745, .int .i64 t746]] (by rfl) rfl rfl (by (try simp only [List.map_toArray, List.map_cons, List.map_nil]); first | done | rfl | (simp only [List.length_drop, List.length_take]; rfl)) ?_
    with_reducible refine (impl_Before.calls k t719 t720 t721 t722 t723 t724 t725 t726 t727 t728 t729 t730 t731 t732 t733 t734 t735 t736 t737 t738 t739 t740 t741 t742 t743 t744 t745 t746 t747 _ A8.out).mono ?_
    rintro e w19 ⟨rfl, hb⟩
    refine ⟨_, rfl, ?_⟩
    have n0_ := Aside0.mk (blk_below (g := gb688) (o := .cells (tk14 a0_0 a0_1 a0_2 a0_3 a0_4 a0_5 a0_6 a0_7 a0_8 a0_9 a0_10 a0_11 a0_12 a0_13) 33 (0, 0)) (by (with_reducible repeat (first | refine blk_drewN ?_ _ | refine blk_drew ?_ | refine blk_alloc ?_ _)); exact BK688.out) hb)
    have n1_ := Aside0.mk (blk_below (g := gb689) (o := .cells (tk14 a1_0 a1_1 a1_2 a1_3 a1_4 a1_5 a1_6 a1_7 a1_8 a1_9 a1_10 a1_11 a1_12 a1_13) 33 (0, 0)) (by (with_reducible repeat (first | refine blk_drewN ?_ _ | refine blk_drew ?_ | refine blk_alloc ?_ _)); exact BK689.out) hb)
    have n2_ := Aside0.mk (below_step (by repeat (first | (with_reducible first | exact HB.out | apply below_alloc | apply pw_below_drewN | apply below_drew1 | refine below_set ?_ GE688.out | refine below_set ?_ GE689.out) | exact HB.out)) hb)
    clear BK688
    clear BK689
    clear HB
    have BK688 := n0_
    have BK689 := n1_
    have HB := n2_
    clear n0_ n1_ n2_
    (try clear hb)
    (try clear hb2)
    (try clear hk)
    (try clear hi)
    refine hK.out _ _ ⟨(blk_cell BK688.out 0).trans rfl, (blk_cell BK688.out 1).trans rfl, (blk_cell BK688.out 2).trans rfl, (blk_cell BK688.out 3).trans rfl, (blk_cell BK688.out 4).trans rfl, (blk_cell BK688.out 5).trans rfl, (blk_cell BK688.out 6).trans rfl, (blk_cell BK688.out 7).trans rfl, (blk_cell BK688.out 8).trans rfl, (blk_cell BK688.out 9).trans rfl, (blk_cell BK688.out 10).trans rfl, (blk_cell BK688.out 11).trans rfl, (blk_cell BK688.out 12).trans rfl, (blk_cell BK688.out 13).trans rfl, (blk_cell BK689.out 0).trans rfl, (blk_cell BK689.out 1).trans rfl, (blk_cell BK689.out 2).trans rfl, (blk_cell BK689.out 3).trans rfl, (blk_cell BK689.out 4).trans rfl, (blk_cell BK689.out 5).trans rfl, (blk_cell BK689.out 6).trans rfl, (blk_cell BK689.out 7).trans rfl, (blk_cell BK689.out 8).trans rfl, (blk_cell BK689.out 9).trans rfl, (blk_cell BK689.out 10).trans rfl, (blk_cell BK689.out 11).trans rfl, (blk_cell BK689.out 12).trans rfl, (blk_cell BK689.out 13).trans rfl⟩ (fun hHeld => ?_)
    clear hK K
    refine norm_ (a' := ?_) ?_ ?_
    rotate_left
    · show Act.put _ (some 16) _ = _
      simp only [Act.put, List.setIfInBounds_toArray, List.set_cons_zero, List.set_cons_succ, i64_w, i32_w]
      rfl
    refine pure_ (i := 5) (N := some 6) (v := ?_) (a' := ?_) #[true, true, true, true, true, true] rfl rfl (by kernel_rfl) (fun _ _ _ h => h) (Or.inl ⟨by rfl, ?_⟩) ?_ ?_
    rotate_left
    · intro w'
      go_simp
      with_reducible rfl
    rotate_left
    · simp only [Act.put, List.setIfInBounds_toArray, List.set_cons_zero, List.set_cons_succ, i64_w, i32_w]
      rfl
    refine done_ (by kernel_rfl) ?_
    try go_wp2
    go_ret
    exact ⟨by first | rfl | (simp [errW_none, errW_some] <;> rfl) | (simp [*, errW_none, errW_some] <;> rfl), by repeat (first | (with_reducible first | exact HB.out | apply below_alloc | apply pw_below_drewN | apply below_drew1 | refine below_set ?_ GE688.out | refine below_set ?_ GE689.out) | exact HB.out)⟩
  · rw [if_neg c9] at H
    have c9b0 : (t747 != t718) = false := by simpa using c9
    (try (have c9b1 : decide (t747 = t718) = true := by simpa using c9))
    (try (have c9b2 : (t747 == t718) = true := by simpa using c9))
    clear c9
    obtain rfl := Option.some.inj H
    go_enter Try.func10, Try.ntmps10
    try go_wp2_with (first | ((with_reducible refine gate_dst (N := 2) rfl ?_); refine box_event ?hg (N := 2) ?hd (cs := tk14 a0_0 a0_1 a0_2 a0_3 a0_4 a0_5 a0_6 a0_7 a0_8 a0_9 a0_10 a0_11 a0_12 a0_13) (t := 33) ?hr ?_; (case hd => rfl); (case hg => rfl); (case hr => first | (go_simp; done) | (go_simp; rfl)); intro gb688 hg w20 hbox hb; have n0_ := Aside0.mk (below_step (by repeat (first | (with_reducible first | exact HB.out | apply below_alloc | apply pw_below_drewN | apply below_drew1) | exact HB.out)) hb); have n1_ := Aside0.mk (hbox); have n2_ := Aside0.mk ((by rw [hg]; exact (below_size (by repeat (first | (with_reducible first | exact HB.out | apply below_alloc | apply pw_below_drewN | apply below_drew1) | exact HB.out))) : w.heap.size ≤ gb688)); have n3_ := Aside0.mk ((by rw [hg]; exact (below_size (by repeat (first | (with_reducible first | exact HB.out | apply below_alloc | apply pw_below_drewN | apply below_drew1) | exact HB.out))) : w.heap.size ≤ gb688)); clear HB; have HB := n0_; have BK688 := n1_; have GW688 := n2_; have GE688 := n3_; clear n0_ n1_ n2_ n3_; clear hb hbox hg) | ((with_reducible refine gate_dst (N := 3) rfl ?_); refine box_event ?hg (N := 3) ?hd (cs := tk14 a1_0 a1_1 a1_2 a1_3 a1_4 a1_5 a1_6 a1_7 a1_8 a1_9 a1_10 a1_11 a1_12 a1_13) (t := 33) ?hr ?_; (case hd => rfl); (case hg => rfl); (case hr => first | (go_simp; done) | (go_simp; rfl)); intro gb689 hg w21 hbox hb; have n0_ := Aside0.mk (blk_below (g := gb688) (o := .cells (tk14 a0_0 a0_1 a0_2 a0_3 a0_4 a0_5 a0_6 a0_7 a0_8 a0_9 a0_10 a0_11 a0_12 a0_13) 33 (0, 0)) (by (with_reducible repeat (first | refine blk_drewN ?_ _ | refine blk_drew ?_ | refine blk_alloc ?_ _)); exact BK688.out) hb); have n1_ := Aside0.mk (below_step (by repeat (first | (with_reducible first | exact HB.out | apply below_alloc | apply pw_below_drewN | apply below_drew1 | refine below_set ?_ GE688.out) | exact HB.out)) hb); have n2_ := Aside0.mk (hbox); have n3_ := Aside0.mk ((by rw [hg]; exact (below_size (by repeat (first | (with_reducible first | exact HB.out | apply below_alloc | apply pw_below_drewN | apply below_drew1 | refine below_set ?_ GE688.out) | exact HB.out))) : w.heap.size ≤ gb689)); have n4_ := Aside0.mk ((by rw [hg]; exact (below_size (by repeat (first | (with_reducible first | exact HB.out | apply below_alloc | apply pw_below_drewN | apply below_drew1 | refine below_set ?_ GE688.out) | exact HB.out))) : w.heap.size ≤ gb689)); have n5_ := Aside0.mk ((by rw [hg]; exact Nat.ne_of_lt (blk_lt (g := gb688) (o := .cells (tk14 a0_0 a0_1 a0_2 a0_3 a0_4 a0_5 a0_6 a0_7 a0_8 a0_9 a0_10 a0_11 a0_12 a0_13) 33 (0, 0)) (by (with_reducible repeat (first | refine blk_drewN ?_ _ | refine blk_drew ?_ | refine blk_alloc ?_ _)); exact BK688.out)) : gb688 ≠ gb689)); have n6_ := Aside0.mk ((by rw [hg]; exact Nat.ne_of_gt (blk_lt (g := gb688) (o := .cells (tk14 a0_0 a0_1 a0_2 a0_3 a0_4 a0_5 a0_6 a0_7 a0_8 a0_9 a0_10 a0_11 a0_12 a0_13) 33 (0, 0)) (by (with_reducible repeat (first | refine blk_drewN ?_ _ | refine blk_drew ?_ | refine blk_alloc ?_ _)); exact BK688.out)) : gb689 ≠ gb688)); clear BK688; clear HB; have BK688 := n0_; have HB := n1_; have BK689 := n2_; have GW689 := n3_; have GE689 := n4_; have NB688_689 := n5_; have NB689_688 := n6_; clear n0_ n1_ n2_ n3_ n4_ n5_ n6_; clear hb hbox hg))
    have n0_ := Aside0.mk (blk_drew BK688.out)
    have n1_ := Aside0.mk (blk_drew BK689.out)
    have n2_ := Aside0.mk (below_drew1 HB.out)
    clear BK688
    clear BK689
    clear HB
    have BK688 := n0_
    have BK689 := n1_
    have HB := n2_
    clear n0_ n1_ n2_
    refine start_ (n := 6) (S := fun w' => w'.cell? ⟨gb688, 0, none⟩ = some (.int .i64 a0_0) ∧ w'.cell? ⟨gb688, 1, none⟩ = some (.int .i64 a0_1) ∧ w'.cell? ⟨gb688, 2, none⟩ = some (.int .i64 a0_2) ∧ w'.cell? ⟨gb688, 3, none⟩ = some (.int .i64 a0_3) ∧ w'.cell? ⟨gb688, 4, none⟩ = some (.bool a0_4) ∧ w'.cell? ⟨gb688, 5, none⟩ = some (.int .i64 a0_5) ∧ w'.cell? ⟨gb688, 6, none⟩ = some (.int .i64 a0_6) ∧ w'.cell? ⟨gb688, 7, none⟩ = some (.int .i64 a0_7) ∧ w'.cell? ⟨gb688, 8, none⟩ = some (.int .i64 a0_8) ∧ w'.cell? ⟨gb688, 9, none⟩ = some (.int .i64 a0_9) ∧ w'.cell? ⟨gb688, 10, none⟩ = some (.int .i64 a0_10) ∧ w'.cell? ⟨gb688, 11, none⟩ = some (.int .i64 a0_11) ∧ w'.cell? ⟨gb688, 12, none⟩ = some (.int .i64 a0_12) ∧ w'.cell? ⟨gb688, 13, none⟩ = some (.int .i64 a0_13) ∧ w'.cell? ⟨gb689, 0, none⟩ = some (.int .i64 a1_0) ∧ w'.cell? ⟨gb689, 1, none⟩ = some (.int .i64 a1_1) ∧ w'.cell? ⟨gb689, 2, none⟩ = some (.int .i64 a1_2) ∧ w'.cell? ⟨gb689, 3, none⟩ = some (.int .i64 a1_3) ∧ w'.cell? ⟨gb689, 4, none⟩ = some (.bool a1_4) ∧ w'.cell? ⟨gb689, 5, none⟩ = some (.int .i64 a1_5) ∧ w'.cell? ⟨gb689, 6, none⟩ = some (.int .i64 a1_6) ∧ w'.cell? ⟨gb689, 7, none⟩ = some (.int .i64 a1_7) ∧ w'.cell? ⟨gb689, 8, none⟩ = some (.int .i64 a1_8) ∧ w'.cell? ⟨gb689, 9, none⟩ = some (.int .i64 a1_9) ∧ w'.cell? ⟨gb689, 10, none⟩ = some (.int .i64 a1_10) ∧ w'.cell? ⟨gb689, 11, none⟩ = some (.int .i64 a1_11) ∧ w'.cell? ⟨gb689, 12, none⟩ = some (.int .i64 a1_12) ∧ w'.cell? ⟨gb689, 13, none⟩ = some (.int .i64 a1_13)) (ds := []) #[false, false, false, false, false, false] (by kernel_rfl) rfl rfl ⟨(blk_cell BK688.out 0).trans rfl, (blk_cell BK688.out 1).trans rfl, (blk_cell BK688.out 2).trans rfl, (blk_cell BK688.out 3).trans rfl, (blk_cell BK688.out 4).trans rfl, (blk_cell BK688.out 5).trans rfl, (blk_cell BK688.out 6).trans rfl, (blk_cell BK688.out 7).trans rfl, (blk_cell BK688.out 8).trans rfl, (blk_cell BK688.out 9).trans rfl, (blk_cell BK688.out 10).trans rfl, (blk_cell BK688.out 11).trans rfl, (blk_cell BK688.out 12).trans rfl, (blk_cell BK688.out 13).trans rfl, (blk_cell BK689.out 0).trans rfl, (blk_cell BK689.out 1).trans rfl, (blk_cell BK689.out 2).trans rfl, (blk_cell BK689.out 3).trans rfl, (blk_cell BK689.out 4).trans rfl, (blk_cell BK689.out 5).trans rfl, (blk_cell BK689.out 6).trans rfl, (blk_cell BK689.out 7).trans rfl, (blk_cell BK689.out 8).trans rfl, (blk_cell BK689.out 9).trans rfl, (blk_cell BK689.out 10).trans rfl, (blk_cell BK689.out 11).trans rfl, (blk_cell BK689.out 12).trans rfl, (blk_cell BK689.out 13).trans rfl⟩ (fun hHeld => ?_)
    generalize w21.drew = w22 at BK688 BK689 HB hHeld ⊢
    refine take_ (i := 0) (N := some 7) (v := ?_) (a' := ?_) #[true, false, false, false, false, false] rfl rfl (by kernel_rfl) (fun _ _ _ h => h) (Or.inl ⟨by rfl, ?_⟩) hHeld ?_ ?_
    rotate_left
    · rintro w' ⟨s0, s1, s2, s3, s4, s5, s6, s7, s8, s9, s10, s11, s12, s13, s14, s15, s16, s17, s18, s19, s20, s21, s22, s23, s24, s25, s26, s27⟩
      go_simp
      with_reducible rfl
    rotate_left
    · simp only [Act.put, List.setIfInBounds_toArray, List.set_cons_zero, List.set_cons_succ, i64_w, i32_w]
      rfl
    refine take_ (i := 2) (N := some 9) (v := ?_) (a' := ?_) #[true, false, true, false, false, false] rfl rfl (by kernel_rfl) (fun _ _ _ h => h) (Or.inl ⟨by rfl, ?_⟩) hHeld ?_ ?_
    rotate_left
    · rintro w' ⟨s0, s1, s2, s3, s4, s5, s6, s7, s8, s9, s10, s11, s12, s13, s14, s15, s16, s17, s18, s19, s20, s21, s22, s23, s24, s25, s26, s27⟩
      go_simp
      with_reducible rfl
    rotate_left
    · simp only [Act.put, List.setIfInBounds_toArray, List.set_cons_zero, List.set_cons_succ, i64_w, i32_w]
      rfl
    refine one_ (i := 1) (N := some 8) #[true, true, true, false, false, false] rfl rfl (by kernel_rfl) (by decide) (fun K hK => ?_)
    refine goes_ Try.func25 (by kernel_rfl) rfl #[.agg #[.int .i64 a0_0, .int .i64 a0_1, .int .i64 a0_2, .int .i64 a0_3, .bool a0_4, .int .i64 a0_5, .int .i64 a0_6, .int .i64 a0_7, .int .i64 a0_8, .int .i64 a0_9, .int .i64 a0_10, .int .i64 a0_11, .int .i64 a0_12, .int .i64 a0_13]] (by rfl) rfl rfl (by (try simp only [List.map_toArray, List.map_cons, List.map_nil]); first | done | rfl | (simp only [List.length_drop, List.length_take]; rfl)) ?_
    with_reducible refine (laws_toTask.calls a0_0 a0_1 a0_2 a0_3 a0_4 a0_5 a0_6 a0_7 a0_8 a0_9 a0_10 a0_11 a0_12 a0_13 t690 t691 t692 t693 t694 t695 t696 t697 t698 t699 t700 t701 t702 t703 _ A3.out).mono ?_
    rintro e w23 ⟨rfl, hb⟩
    refine ⟨_, rfl, ?_⟩
    have n0_ := Aside0.mk (blk_below (g := gb688) (o := .cells (tk14 a0_0 a0_1 a0_2 a0_3 a0_4 a0_5 a0_6 a0_7 a0_8 a0_9 a0_10 a0_11 a0_12 a0_13) 33 (0, 0)) (by (with_reducible repeat (first | refine blk_drewN ?_ _ | refine blk_drew ?_ | refine blk_alloc ?_ _)); exact BK688.out) hb)
    have n1_ := Aside0.mk (blk_below (g := gb689) (o := .cells (tk14 a1_0 a1_1 a1_2 a1_3 a1_4 a1_5 a1_6 a1_7 a1_8 a1_9 a1_10 a1_11 a1_12 a1_13) 33 (0, 0)) (by (with_reducible repeat (first | refine blk_drewN ?_ _ | refine blk_drew ?_ | refine blk_alloc ?_ _)); exact BK689.out) hb)
    have n2_ := Aside0.mk (below_step (by repeat (first | (with_reducible first | exact HB.out | apply below_alloc | apply pw_below_drewN | apply below_drew1 | refine below_set ?_ GE688.out | refine below_set ?_ GE689.out) | exact HB.out)) hb)
    clear BK688
    clear BK689
    clear HB
    have BK688 := n0_
    have BK689 := n1_
    have HB := n2_
    clear n0_ n1_ n2_
    (try clear hb)
    (try clear hb2)
    (try clear hk)
    (try clear hi)
    refine hK.out _ _ ⟨(blk_cell BK688.out 0).trans rfl, (blk_cell BK688.out 1).trans rfl, (blk_cell BK688.out 2).trans rfl, (blk_cell BK688.out 3).trans rfl, (blk_cell BK688.out 4).trans rfl, (blk_cell BK688.out 5).trans rfl, (blk_cell BK688.out 6).trans rfl, (blk_cell BK688.out 7).trans rfl, (blk_cell BK688.out 8).trans rfl, (blk_cell BK688.out 9).trans rfl, (blk_cell BK688.out 10).trans rfl, (blk_cell BK688.out 11).trans rfl, (blk_cell BK688.out 12).trans rfl, (blk_cell BK688.out 13).trans rfl, (blk_cell BK689.out 0).trans rfl, (blk_cell BK689.out 1).trans rfl, (blk_cell BK689.out 2).trans rfl, (blk_cell BK689.out 3).trans rfl, (blk_cell BK689.out 4).trans rfl, (blk_cell BK689.out 5).trans rfl, (blk_cell BK689.out 6).trans rfl, (blk_cell BK689.out 7).trans rfl, (blk_cell BK689.out 8).trans rfl, (blk_cell BK689.out 9).trans rfl, (blk_cell BK689.out 10).trans rfl, (blk_cell BK689.out 11).trans rfl, (blk_cell BK689.out 12).trans rfl, (blk_cell BK689.out 13).trans rfl⟩ (fun hHeld => ?_)
    clear hK K
    refine norm_ (a' := ?_) ?_ ?_
    rotate_left
    · show Act.put _ (some 8) _ = _
      simp only [Act.put, List.setIfInBounds_toArray, List.set_cons_zero, List.set_cons_succ, i64_w, i32_w]
      rfl
    refine one_ (i := 3) (N := some 10) #[true, true, true, true, false, false] rfl rfl (by kernel_rfl) (by decide) (fun K hK => ?_)
    refine goes_ Try.func25 (by kernel_rfl) rfl #[.agg #[.int .i64 a1_0, .int .i64 a1_1, .int .i64 a1_2, .int .i64 a1_3, .bool a1_4, .int .i64 a1_5, .int .i64 a1_6, .int .i64 a1_7, .int .i64 a1_8, .int .i64 a1_9, .int .i64 a1_10, .int .i64 a1_11, .int .i64 a1_12, .int .i64 a1_13]] (by rfl) rfl rfl (by (try simp only [List.map_toArray, List.map_cons, List.map_nil]); first | done | rfl | (simp only [List.length_drop, List.length_take]; rfl)) ?_
    with_reducible refine (laws_toTask.calls a1_0 a1_1 a1_2 a1_3 a1_4 a1_5 a1_6 a1_7 a1_8 a1_9 a1_10 a1_11 a1_12 a1_13 t704 t705 t706 t707 t708 t709 t710 t711 t712 t713 t714 t715 t716 t717 _ A4.out).mono ?_
    rintro e w24 ⟨rfl, hb⟩
    refine ⟨_, rfl, ?_⟩
    have n0_ := Aside0.mk (blk_below (g := gb688) (o := .cells (tk14 a0_0 a0_1 a0_2 a0_3 a0_4 a0_5 a0_6 a0_7 a0_8 a0_9 a0_10 a0_11 a0_12 a0_13) 33 (0, 0)) (by (with_reducible repeat (first | refine blk_drewN ?_ _ | refine blk_drew ?_ | refine blk_alloc ?_ _)); exact BK688.out) hb)
    have n1_ := Aside0.mk (blk_below (g := gb689) (o := .cells (tk14 a1_0 a1_1 a1_2 a1_3 a1_4 a1_5 a1_6 a1_7 a1_8 a1_9 a1_10 a1_11 a1_12 a1_13) 33 (0, 0)) (by (with_reducible repeat (first | refine blk_drewN ?_ _ | refine blk_drew ?_ | refine blk_alloc ?_ _)); exact BK689.out) hb)
    have n2_ := Aside0.mk (below_step (by repeat (first | (with_reducible first | exact HB.out | apply below_alloc | apply pw_below_drewN | apply below_drew1 | refine below_set ?_ GE688.out | refine below_set ?_ GE689.out) | exact HB.out)) hb)
    clear BK688
    clear BK689
    clear HB
    have BK688 := n0_
    have BK689 := n1_
    have HB := n2_
    clear n0_ n1_ n2_
    (try clear hb)
    (try clear hb2)
    (try clear hk)
    (try clear hi)
    refine hK.out _ _ ⟨(blk_cell BK688.out 0).trans rfl, (blk_cell BK688.out 1).trans rfl, (blk_cell BK688.out 2).trans rfl, (blk_cell BK688.out 3).trans rfl, (blk_cell BK688.out 4).trans rfl, (blk_cell BK688.out 5).trans rfl, (blk_cell BK688.out 6).trans rfl, (blk_cell BK688.out 7).trans rfl, (blk_cell BK688.out 8).trans rfl, (blk_cell BK688.out 9).trans rfl, (blk_cell BK688.out 10).trans rfl, (blk_cell BK688.out 11).trans rfl, (blk_cell BK688.out 12).trans rfl, (blk_cell BK688.out 13).trans rfl, (blk_cell BK689.out 0).trans rfl, (blk_cell BK689.out 1).trans rfl, (blk_cell BK689.out 2).trans rfl, (blk_cell BK689.out 3).trans rfl, (blk_cell BK689.out 4).trans rfl, (blk_cell BK689.out 5).trans rfl, (blk_cell BK689.out 6).trans rfl, (blk_cell BK689.out 7).trans rfl, (blk_cell BK689.out 8).trans rfl, (blk_cell BK689.out 9).trans rfl, (blk_cell BK689.out 10).trans rfl, (blk_cell BK689.out 11).trans rfl, (blk_cell BK689.out 12).trans rfl, (blk_cell BK689.out 13).trans rfl⟩ (fun hHeld => ?_)
    clear hK K
    refine norm_ (a' := ?_) ?_ ?_
    rotate_left
    · show Act.put _ (some 10) _ = _
      simp only [Act.put, List.setIfInBounds_toArray, List.set_cons_zero, List.set_cons_succ, i64_w, i32_w]
      rfl
    refine one_ (i := 4) (N := some 11) #[true, true, true, true, true, false] rfl rfl (by kernel_rfl) (by decide) (fun K hK => ?_)
    refine goes_ Try.func39 (by kernel_rfl) rfl #[.agg #[.int .i64 t690, .int .i64 t691, .int .i64 t692, .int .i64 t693, .bool t694, .int .i64 t695, .int .i64 t696, .int .i64 t697, .int .i64 t698, .int .i64 t699, .int .i64 t700, .int .i64 t701, .int .i64 t702, .int .i64 t703], .agg #[.int .i64 t704, .int .i64 t705, .int .i64 t706, .int .i64 t707, .bool t708, .int .i64 t709, .int .i64 t710, .int .i64 t711, .int .i64 t712, .int .i64 t713, .int .i64 t714, .int .i64 t715, .int .i64 t716, .int .i64 t717]] (by rfl) rfl rfl (by (try simp only [List.map_toArray, List.map_cons, List.map_nil]); first | done | rfl | (simp only [List.length_drop, List.length_take]; rfl)) ?_
    with_reducible refine (spec_Before.calls k t690 t691 t692 t693 t694 t695 t696 t697 t698 t699 t700 t701 t702 t703 t704 t705 t706 t707 t708 t709 t710 t711 t712 t713 t714 t715 t716 t717 t718 _ A5.out).mono ?_
    rintro e w25 ⟨rfl, hb⟩
    refine ⟨_, rfl, ?_⟩
    have n0_ := Aside0.mk (blk_below (g := gb688) (o := .cells (tk14 a0_0 a0_1 a0_2 a0_3 a0_4 a0_5 a0_6 a0_7 a0_8 a0_9 a0_10 a0_11 a0_12 a0_13) 33 (0, 0)) (by (with_reducible repeat (first | refine blk_drewN ?_ _ | refine blk_drew ?_ | refine blk_alloc ?_ _)); exact BK688.out) hb)
    have n1_ := Aside0.mk (blk_below (g := gb689) (o := .cells (tk14 a1_0 a1_1 a1_2 a1_3 a1_4 a1_5 a1_6 a1_7 a1_8 a1_9 a1_10 a1_11 a1_12 a1_13) 33 (0, 0)) (by (with_reducible repeat (first | refine blk_drewN ?_ _ | refine blk_drew ?_ | refine blk_alloc ?_ _)); exact BK689.out) hb)
    have n2_ := Aside0.mk (below_step (by repeat (first | (with_reducible first | exact HB.out | apply below_alloc | apply pw_below_drewN | apply below_drew1 | refine below_set ?_ GE688.out | refine below_set ?_ GE689.out) | exact HB.out)) hb)
    clear BK688
    clear BK689
    clear HB
    have BK688 := n0_
    have BK689 := n1_
    have HB := n2_
    clear n0_ n1_ n2_
    (try clear hb)
    (try clear hb2)
    (try clear hk)
    (try clear hi)
    refine hK.out _ _ ⟨(blk_cell BK688.out 0).trans rfl, (blk_cell BK688.out 1).trans rfl, (blk_cell BK688.out 2).trans rfl, (blk_cell BK688.out 3).trans rfl, (blk_cell BK688.out 4).trans rfl, (blk_cell BK688.out 5).trans rfl, (blk_cell BK688.out 6).trans rfl, (blk_cell BK688.out 7).trans rfl, (blk_cell BK688.out 8).trans rfl, (blk_cell BK688.out 9).trans rfl, (blk_cell BK688.out 10).trans rfl, (blk_cell BK688.out 11).trans rfl, (blk_cell BK688.out 12).trans rfl, (blk_cell BK688.out 13).trans rfl, (blk_cell BK689.out 0).trans rfl, (blk_cell BK689.out 1).trans rfl, (blk_cell BK689.out 2).trans rfl, (blk_cell BK689.out 3).trans rfl, (blk_cell BK689.out 4).trans rfl, (blk_cell BK689.out 5).trans rfl, (blk_cell BK689.out 6).trans rfl, (blk_cell BK689.out 7).trans rfl, (blk_cell BK689.out 8).trans rfl, (blk_cell BK689.out 9).trans rfl, (blk_cell BK689.out 10).trans rfl, (blk_cell BK689.out 11).trans rfl, (blk_cell BK689.out 12).trans rfl, (blk_cell BK689.out 13).trans rfl⟩ (fun hHeld => ?_)
    clear hK K
    refine norm_ (a' := ?_) ?_ ?_
    rotate_left
    · show Act.put _ (some 11) _ = _
      simp only [Act.put, List.setIfInBounds_toArray, List.set_cons_zero, List.set_cons_succ, i64_w, i32_w]
      rfl
    refine pure_ (i := 5) (N := some 5) (v := ?_) (a' := ?_) #[true, true, true, true, true, true] rfl rfl (by kernel_rfl) (fun _ _ _ h => h) (Or.inl ⟨by rfl, ?_⟩) ?_ ?_
    rotate_left
    · intro w'
      go_simp
      with_reducible rfl
    rotate_left
    · simp only [Act.put, List.setIfInBounds_toArray, List.set_cons_zero, List.set_cons_succ, i64_w, i32_w]
      rfl
    refine done_ (by kernel_rfl) ?_
    try go_wp2
    have n0_ := Aside0.mk (blk_drew BK688.out)
    have n1_ := Aside0.mk (blk_drew BK689.out)
    have n2_ := Aside0.mk (below_drew1 HB.out)
    clear BK688
    clear BK689
    clear HB
    have BK688 := n0_
    have BK689 := n1_
    have HB := n2_
    clear n0_ n1_ n2_
    refine start_ (n := 6) (S := fun w' => w'.cell? ⟨gb688, 0, none⟩ = some (.int .i64 a0_0) ∧ w'.cell? ⟨gb688, 1, none⟩ = some (.int .i64 a0_1) ∧ w'.cell? ⟨gb688, 2, none⟩ = some (.int .i64 a0_2) ∧ w'.cell? ⟨gb688, 3, none⟩ = some (.int .i64 a0_3) ∧ w'.cell? ⟨gb688, 4, none⟩ = some (.bool a0_4) ∧ w'.cell? ⟨gb688, 5, none⟩ = some (.int .i64 a0_5) ∧ w'.cell? ⟨gb688, 6, none⟩ = some (.int .i64 a0_6) ∧ w'.cell? ⟨gb688, 7, none⟩ = some (.int .i64 a0_7) ∧ w'.cell? ⟨gb688, 8, none⟩ = some (.int .i64 a0_8) ∧ w'.cell? ⟨gb688, 9, none⟩ = some (.int .i64 a0_9) ∧ w'.cell? ⟨gb688, 10, none⟩ = some (.int .i64 a0_10) ∧ w'.cell? ⟨gb688, 11, none⟩ = some (.int .i64 a0_11) ∧ w'.cell? ⟨gb688, 12, none⟩ = some (.int .i64 a0_12) ∧ w'.cell? ⟨gb688, 13, none⟩ = some (.int .i64 a0_13) ∧ w'.cell? ⟨gb689, 0, none⟩ = some (.int .i64 a1_0) ∧ w'.cell? ⟨gb689, 1, none⟩ = some (.int .i64 a1_1) ∧ w'.cell? ⟨gb689, 2, none⟩ = some (.int .i64 a1_2) ∧ w'.cell? ⟨gb689, 3, none⟩ = some (.int .i64 a1_3) ∧ w'.cell? ⟨gb689, 4, none⟩ = some (.bool a1_4) ∧ w'.cell? ⟨gb689, 5, none⟩ = some (.int .i64 a1_5) ∧ w'.cell? ⟨gb689, 6, none⟩ = some (.int .i64 a1_6) ∧ w'.cell? ⟨gb689, 7, none⟩ = some (.int .i64 a1_7) ∧ w'.cell? ⟨gb689, 8, none⟩ = some (.int .i64 a1_8) ∧ w'.cell? ⟨gb689, 9, none⟩ = some (.int .i64 a1_9) ∧ w'.cell? ⟨gb689, 10, none⟩ = some (.int .i64 a1_10) ∧ w'.cell? ⟨gb689, 11, none⟩ = some (.int .i64 a1_11) ∧ w'.cell? ⟨gb689, 12, none⟩ = some (.int .i64 a1_12) ∧ w'.cell? ⟨gb689, 13, none⟩ = some (.int .i64 a1_13)) (ds := []) #[false, false, false, false, false, false] (by kernel_rfl) rfl rfl ⟨(blk_cell BK688.out 0).trans rfl, (blk_cell BK688.out 1).trans rfl, (blk_cell BK688.out 2).trans rfl, (blk_cell BK688.out 3).trans rfl, (blk_cell BK688.out 4).trans rfl, (blk_cell BK688.out 5).trans rfl, (blk_cell BK688.out 6).trans rfl, (blk_cell BK688.out 7).trans rfl, (blk_cell BK688.out 8).trans rfl, (blk_cell BK688.out 9).trans rfl, (blk_cell BK688.out 10).trans rfl, (blk_cell BK688.out 11).trans rfl, (blk_cell BK688.out 12).trans rfl, (blk_cell BK688.out 13).trans rfl, (blk_cell BK689.out 0).trans rfl, (blk_cell BK689.out 1).trans rfl, (blk_cell BK689.out 2).trans rfl, (blk_cell BK689.out 3).trans rfl, (blk_cell BK689.out 4).trans rfl, (blk_cell BK689.out 5).trans rfl, (blk_cell BK689.out 6).trans rfl, (blk_cell BK689.out 7).trans rfl, (blk_cell BK689.out 8).trans rfl, (blk_cell BK689.out 9).trans rfl, (blk_cell BK689.out 10).trans rfl, (blk_cell BK689.out 11).trans rfl, (blk_cell BK689.out 12).trans rfl, (blk_cell BK689.out 13).trans rfl⟩ (fun hHeld => ?_)
    generalize w25.drew = w26 at BK688 BK689 HB hHeld ⊢
    refine take_ (i := 0) (N := some 12) (v := ?_) (a' := ?_) #[true, false, false, false, false, false] rfl rfl (by kernel_rfl) (fun _ _ _ h => h) (Or.inl ⟨by rfl, ?_⟩) hHeld ?_ ?_
    rotate_left
    · rintro w' ⟨s0, s1, s2, s3, s4, s5, s6, s7, s8, s9, s10, s11, s12, s13, s14, s15, s16, s17, s18, s19, s20, s21, s22, s23, s24, s25, s26, s27⟩
      go_simp
      with_reducible rfl
    rotate_left
    · simp only [Act.put, List.setIfInBounds_toArray, List.set_cons_zero, List.set_cons_succ, i64_w, i32_w]
      rfl
    refine take_ (i := 2) (N := some 14) (v := ?_) (a' := ?_) #[true, false, true, false, false, false] rfl rfl (by kernel_rfl) (fun _ _ _ h => h) (Or.inl ⟨by rfl, ?_⟩) hHeld ?_ ?_
    rotate_left
    · rintro w' ⟨s0, s1, s2, s3, s4, s5, s6, s7, s8, s9, s10, s11, s12, s13, s14, s15, s16, s17, s18, s19, s20, s21, s22, s23, s24, s25, s26, s27⟩
      go_simp
      with_reducible rfl
    rotate_left
    · simp only [Act.put, List.setIfInBounds_toArray, List.set_cons_zero, List.set_cons_succ, i64_w, i32_w]
      rfl
    refine one_ (i := 1) (N := some 13) #[true, true, true, false, false, false] rfl rfl (by kernel_rfl) (by decide) (fun K hK => ?_)
    refine goes_ Try.func25 (by kernel_rfl) rfl #[.agg #[.int .i64 a0_0, .int .i64 a0_1, .int .i64 a0_2, .int .i64 a0_3, .bool a0_4, .int .i64 a0_5, .int .i64 a0_6, .int .i64 a0_7, .int .i64 a0_8, .int .i64 a0_9, .int .i64 a0_10, .int .i64 a0_11, .int .i64 a0_12, .int .i64 a0_13]] (by rfl) rfl rfl (by (try simp only [List.map_toArray, List.map_cons, List.map_nil]); first | done | rfl | (simp only [List.length_drop, List.length_take]; rfl)) ?_
    with_reducible refine (laws_toTask.calls a0_0 a0_1 a0_2 a0_3 a0_4 a0_5 a0_6 a0_7 a0_8 a0_9 a0_10 a0_11 a0_12 a0_13 t719 t720 t721 t722 t723 t724 t725 t726 t727 t728 t729 t730 t731 t732 _ A6.out).mono ?_
    rintro e w27 ⟨rfl, hb⟩
    refine ⟨_, rfl, ?_⟩
    have n0_ := Aside0.mk (blk_below (g := gb688) (o := .cells (tk14 a0_0 a0_1 a0_2 a0_3 a0_4 a0_5 a0_6 a0_7 a0_8 a0_9 a0_10 a0_11 a0_12 a0_13) 33 (0, 0)) (by (with_reducible repeat (first | refine blk_drewN ?_ _ | refine blk_drew ?_ | refine blk_alloc ?_ _)); exact BK688.out) hb)
    have n1_ := Aside0.mk (blk_below (g := gb689) (o := .cells (tk14 a1_0 a1_1 a1_2 a1_3 a1_4 a1_5 a1_6 a1_7 a1_8 a1_9 a1_10 a1_11 a1_12 a1_13) 33 (0, 0)) (by (with_reducible repeat (first | refine blk_drewN ?_ _ | refine blk_drew ?_ | refine blk_alloc ?_ _)); exact BK689.out) hb)
    have n2_ := Aside0.mk (below_step (by repeat (first | (with_reducible first | exact HB.out | apply below_alloc | apply pw_below_drewN | apply below_drew1 | refine below_set ?_ GE688.out | refine below_set ?_ GE689.out) | exact HB.out)) hb)
    clear BK688
    clear BK689
    clear HB
    have BK688 := n0_
    have BK689 := n1_
    have HB := n2_
    clear n0_ n1_ n2_
    (try clear hb)
    (try clear hb2)
    (try clear hk)
    (try clear hi)
    refine hK.out _ _ ⟨(blk_cell BK688.out 0).trans rfl, (blk_cell BK688.out 1).trans rfl, (blk_cell BK688.out 2).trans rfl, (blk_cell BK688.out 3).trans rfl, (blk_cell BK688.out 4).trans rfl, (blk_cell BK688.out 5).trans rfl, (blk_cell BK688.out 6).trans rfl, (blk_cell BK688.out 7).trans rfl, (blk_cell BK688.out 8).trans rfl, (blk_cell BK688.out 9).trans rfl, (blk_cell BK688.out 10).trans rfl, (blk_cell BK688.out 11).trans rfl, (blk_cell BK688.out 12).trans rfl, (blk_cell BK688.out 13).trans rfl, (blk_cell BK689.out 0).trans rfl, (blk_cell BK689.out 1).trans rfl, (blk_cell BK689.out 2).trans rfl, (blk_cell BK689.out 3).trans rfl, (blk_cell BK689.out 4).trans rfl, (blk_cell BK689.out 5).trans rfl, (blk_cell BK689.out 6).trans rfl, (blk_cell BK689.out 7).trans rfl, (blk_cell BK689.out 8).trans rfl, (blk_cell BK689.out 9).trans rfl, (blk_cell BK689.out 10).trans rfl, (blk_cell BK689.out 11).trans rfl, (blk_cell BK689.out 12).trans rfl, (blk_cell BK689.out 13).trans rfl⟩ (fun hHeld => ?_)
    clear hK K
    refine norm_ (a' := ?_) ?_ ?_
    rotate_left
    · show Act.put _ (some 13) _ = _
      simp only [Act.put, List.setIfInBounds_toArray, List.set_cons_zero, List.set_cons_succ, i64_w, i32_w]
      rfl
    refine one_ (i := 3) (N := some 15) #[true, true, true, true, false, false] rfl rfl (by kernel_rfl) (by decide) (fun K hK => ?_)
    refine goes_ Try.func25 (by kernel_rfl) rfl #[.agg #[.int .i64 a1_0, .int .i64 a1_1, .int .i64 a1_2, .int .i64 a1_3, .bool a1_4, .int .i64 a1_5, .int .i64 a1_6, .int .i64 a1_7, .int .i64 a1_8, .int .i64 a1_9, .int .i64 a1_10, .int .i64 a1_11, .int .i64 a1_12, .int .i64 a1_13]] (by rfl) rfl rfl (by (try simp only [List.map_toArray, List.map_cons, List.map_nil]); first | done | rfl | (simp only [List.length_drop, List.length_take]; rfl)) ?_
    with_reducible refine (laws_toTask.calls a1_0 a1_1 a1_2 a1_3 a1_4 a1_5 a1_6 a1_7 a1_8 a1_9 a1_10 a1_11 a1_12 a1_13 t733 t734 t735 t736 t737 t738 t739 t740 t741 t742 t743 t744 t745 t746 _ A7.out).mono ?_
    rintro e w28 ⟨rfl, hb⟩
    refine ⟨_, rfl, ?_⟩
    have n0_ := Aside0.mk (blk_below (g := gb688) (o := .cells (tk14 a0_0 a0_1 a0_2 a0_3 a0_4 a0_5 a0_6 a0_7 a0_8 a0_9 a0_10 a0_11 a0_12 a0_13) 33 (0, 0)) (by (with_reducible repeat (first | refine blk_drewN ?_ _ | refine blk_drew ?_ | refine blk_alloc ?_ _)); exact BK688.out) hb)
    have n1_ := Aside0.mk (blk_below (g := gb689) (o := .cells (tk14 a1_0 a1_1 a1_2 a1_3 a1_4 a1_5 a1_6 a1_7 a1_8 a1_9 a1_10 a1_11 a1_12 a1_13) 33 (0, 0)) (by (with_reducible repeat (first | refine blk_drewN ?_ _ | refine blk_drew ?_ | refine blk_alloc ?_ _)); exact BK689.out) hb)
    have n2_ := Aside0.mk (below_step (by repeat (first | (with_reducible first | exact HB.out | apply below_alloc | apply pw_below_drewN | apply below_drew1 | refine below_set ?_ GE688.out | refine below_set ?_ GE689.out) | exact HB.out)) hb)
    clear BK688
    clear BK689
    clear HB
    have BK688 := n0_
    have BK689 := n1_
    have HB := n2_
    clear n0_ n1_ n2_
    (try clear hb)
    (try clear hb2)
    (try clear hk)
    (try clear hi)
    refine hK.out _ _ ⟨(blk_cell BK688.out 0).trans rfl, (blk_cell BK688.out 1).trans rfl, (blk_cell BK688.out 2).trans rfl, (blk_cell BK688.out 3).trans rfl, (blk_cell BK688.out 4).trans rfl, (blk_cell BK688.out 5).trans rfl, (blk_cell BK688.out 6).trans rfl, (blk_cell BK688.out 7).trans rfl, (blk_cell BK688.out 8).trans rfl, (blk_cell BK688.out 9).trans rfl, (blk_cell BK688.out 10).trans rfl, (blk_cell BK688.out 11).trans rfl, (blk_cell BK688.out 12).trans rfl, (blk_cell BK688.out 13).trans rfl, (blk_cell BK689.out 0).trans rfl, (blk_cell BK689.out 1).trans rfl, (blk_cell BK689.out 2).trans rfl, (blk_cell BK689.out 3).trans rfl, (blk_cell BK689.out 4).trans rfl, (blk_cell BK689.out 5).trans rfl, (blk_cell BK689.out 6).trans rfl, (blk_cell BK689.out 7).trans rfl, (blk_cell BK689.out 8).trans rfl, (blk_cell BK689.out 9).trans rfl, (blk_cell BK689.out 10).trans rfl, (blk_cell BK689.out 11).trans rfl, (blk_cell BK689.out 12).trans rfl, (blk_cell BK689.out 13).trans rfl⟩ (fun hHeld => ?_)
    clear hK K
    refine norm_ (a' := ?_) ?_ ?_
    rotate_left
    · show Act.put _ (some 15) _ = _
      simp only [Act.put, List.setIfInBounds_toArray, List.set_cons_zero, List.set_cons_succ, i64_w, i32_w]
      rfl
    refine one_ (i := 4) (N := some 16) #[true, true, true, true, true, false] rfl rfl (by kernel_rfl) (by decide) (fun K hK => ?_)
    refine goes_ Try.func40 (by kernel_rfl) rfl #[.agg #[.int .i64 t719, .int .i64 t720, .int .i64 t721, .int .i64 t722, .bool t723, .int .i64 t724, .int .i64 t725, .int .i64 t726, .int .i64 t727, .int .i64 t728, .int .i64 t729, .int .i64 t730, .int .i64 t731, .int .i64 t732], .agg #[.int .i64 t733, .int .i64 t734, .int .i64 t735, .int .i64 t736, .bool t737, .int .i64 t738, .int .i64 t739, .int .i64 t740, .int .i64 t741, .int .i64 t742, .int .i64 t743, .int .i64 t744, .int .i64 t745, .int .i64 t746]] (by rfl) rfl rfl (by (try simp only [List.map_toArray, List.map_cons, List.map_nil]); first | done | rfl | (simp only [List.length_drop, List.length_take]; rfl)) ?_
    with_reducible refine (impl_Before.calls k t719 t720 t721 t722 t723 t724 t725 t726 t727 t728 t729 t730 t731 t732 t733 t734 t735 t736 t737 t738 t739 t740 t741 t742 t743 t744 t745 t746 t747 _ A8.out).mono ?_
    rintro e w29 ⟨rfl, hb⟩
    refine ⟨_, rfl, ?_⟩
    have n0_ := Aside0.mk (blk_below (g := gb688) (o := .cells (tk14 a0_0 a0_1 a0_2 a0_3 a0_4 a0_5 a0_6 a0_7 a0_8 a0_9 a0_10 a0_11 a0_12 a0_13) 33 (0, 0)) (by (with_reducible repeat (first | refine blk_drewN ?_ _ | refine blk_drew ?_ | refine blk_alloc ?_ _)); exact BK688.out) hb)
    have n1_ := Aside0.mk (blk_below (g := gb689) (o := .cells (tk14 a1_0 a1_1 a1_2 a1_3 a1_4 a1_5 a1_6 a1_7 a1_8 a1_9 a1_10 a1_11 a1_12 a1_13) 33 (0, 0)) (by (with_reducible repeat (first | refine blk_drewN ?_ _ | refine blk_drew ?_ | refine blk_alloc ?_ _)); exact BK689.out) hb)
    have n2_ := Aside0.mk (below_step (by repeat (first | (with_reducible first | exact HB.out | apply below_alloc | apply pw_below_drewN | apply below_drew1 | refine below_set ?_ GE688.out | refine below_set ?_ GE689.out) | exact HB.out)) hb)
    clear BK688
    clear BK689
    clear HB
    have BK688 := n0_
    have BK689 := n1_
    have HB := n2_
    clear n0_ n1_ n2_
    (try clear hb)
    (try clear hb2)
    (try clear hk)
    (try clear hi)
    refine hK.out _ _ ⟨(blk_cell BK688.out 0).trans rfl, (blk_cell BK688.out 1).trans rfl, (blk_cell BK688.out 2).trans rfl, (blk_cell BK688.out 3).trans rfl, (blk_cell BK688.out 4).trans rfl, (blk_cell BK688.out 5).trans rfl, (blk_cell BK688.out 6).trans rfl, (blk_cell BK688.out 7).trans rfl, (blk_cell BK688.out 8).trans rfl, (blk_cell BK688.out 9).trans rfl, (blk_cell BK688.out 10).trans rfl, (blk_cell BK688.out 11).trans rfl, (blk_cell BK688.out 12).trans rfl, (blk_cell BK688.out 13).trans rfl, (blk_cell BK689.out 0).trans rfl, (blk_cell BK689.out 1).trans rfl, (blk_cell BK689.out 2).trans rfl, (blk_cell BK689.out 3).trans rfl, (blk_cell BK689.out 4).trans rfl, (blk_cell BK689.out 5).trans rfl, (blk_cell BK689.out 6).trans rfl, (blk_cell BK689.out 7).trans rfl, (blk_cell BK689.out 8).trans rfl, (blk_cell BK689.out 9).trans rfl, (blk_cell BK689.out 10).trans rfl, (blk_cell BK689.out 11).trans rfl, (blk_cell BK689.out 12).trans rfl, (blk_cell BK689.out 13).trans rfl⟩ (fun hHeld => ?_)
    clear hK K
    refine norm_ (a' := ?_) ?_ ?_
    rotate_left
    · show Act.put _ (some 16) _ = _
      simp only [Act.put, List.setIfInBounds_toArray, List.set_cons_zero, List.set_cons_succ, i64_w, i32_w]
      rfl
    refine pure_ (i := 5) (N := some 6) (v := ?_) (a' := ?_) #[true, true, true, true, true, true] rfl rfl (by kernel_rfl) (fun _ _ _ h => h) (Or.inl ⟨by rfl, ?_⟩) ?_ ?_
    rotate_left
    · intro w'
      go_simp
      with_reducible rfl
    rotate_left
    · simp only [Act.put, List.setIfInBounds_toArray, List.set_cons_zero, List.set_cons_succ, i64_w, i32_w]
      rfl
    refine done_ (by kernel_rfl) ?_
    try go_wp2
    go_ret
    exact ⟨by first | rfl | (simp [errW_none, errW_some] <;> rfl) | (simp [*, errW_none, errW_some] <;> rfl), by repeat (first | (with_reducible first | exact HB.out | apply below_alloc | apply pw_below_drewN | apply below_drew1 | refine below_set ?_ GE688.out | refine below_set ?_ GE689.out) | exact HB.out)⟩

/-- THE ONE PURE STATEMENT of laws_FnExactBefore. -/
def laws_FnExactBefore.Pure : Prop := ∀ (a0_0 : Int) (a0_1 : Int) (a0_2 : Int) (a0_3 : Int) (a0_4 : Bool) (a0_5 : Int) (a0_6 : Int) (a0_7 : Int) (a0_8 : Int) (a0_9 : Int) (a0_10 : Int) (a0_11 : Int) (a0_12 : Int) (a0_13 : Int) (a1_0 : Int) (a1_1 : Int) (a1_2 : Int) (a1_3 : Int) (a1_4 : Bool) (a1_5 : Int) (a1_6 : Int) (a1_7 : Int) (a1_8 : Int) (a1_9 : Int) (a1_10 : Int) (a1_11 : Int) (a1_12 : Int) (a1_13 : Int), ok33 (⟨a0_0, a0_1, a0_2, a0_3, a0_4, a0_5, a0_6, a0_7, a0_8, a0_9, a0_10, a0_11, a0_12, a0_13⟩ : S33) → ok33 (⟨a1_0, a1_1, a1_2, a1_3, a1_4, a1_5, a1_6, a1_7, a1_8, a1_9, a1_10, a1_11, a1_12, a1_13⟩ : S33) → ∃ k, laws_FnExactBefore.f k a0_0 a0_1 a0_2 a0_3 a0_4 a0_5 a0_6 a0_7 a0_8 a0_9 a0_10 a0_11 a0_12 a0_13 a1_0 a1_1 a1_2 a1_3 a1_4 a1_5 a1_6 a1_7 a1_8 a1_9 a1_10 a1_11 a1_12 a1_13 = some true
theorem laws_FnExactBefore.walk (P : laws_FnExactBefore.Pure) (a0_0 : Int) (a0_1 : Int) (a0_2 : Int) (a0_3 : Int) (a0_4 : Bool) (a0_5 : Int) (a0_6 : Int) (a0_7 : Int) (a0_8 : Int) (a0_9 : Int) (a0_10 : Int) (a0_11 : Int) (a0_12 : Int) (a0_13 : Int) (a1_0 : Int) (a1_1 : Int) (a1_2 : Int) (a1_3 : Int) (a1_4 : Bool) (a1_5 : Int) (a1_6 : Int) (a1_7 : Int) (a1_8 : Int) (a1_9 : Int) (a1_10 : Int) (a1_11 : Int) (a1_12 : Int) (a1_13 : Int) (w : World) (w0 : ok33 (⟨a0_0, a0_1, a0_2, a0_3, a0_4, a0_5, a0_6, a0_7, a0_8, a0_9, a0_10, a0_11, a0_12, a0_13⟩ : S33)) (w1 : ok33 (⟨a1_0, a1_1, a1_2, a1_3, a1_4, a1_5, a1_6, a1_7, a1_8, a1_9, a1_10, a1_11, a1_12, a1_13⟩ : S33)) :
    Calls Try.prog 10 #[.agg #[.int .i64 a0_0, .int .i64 a0_1, .int .i64 a0_2, .int .i64 a0_3, .bool a0_4, .int .i64 a0_5, .int .i64 a0_6, .int .i64 a0_7, .int .i64 a0_8, .int .i64 a0_9, .int .i64 a0_10, .int .i64 a0_11, .int .i64 a0_12, .int .i64 a0_13], .agg #[.int .i64 a1_0, .int .i64 a1_1, .int .i64 a1_2, .int .i64 a1_3, .bool a1_4, .int .i64 a1_5, .int .i64 a1_6, .int .i64 a1_7, .int .i64 a1_8, .int .i64 a1_9, .int .i64 a1_10, .int .i64 a1_11, .int .i64 a1_12, .int .i64 a1_13]] w fun e w' => e = .returned (.bool true) ∧ Below w.heap.size w w' := by
  obtain ⟨k, h⟩ := P a0_0 a0_1 a0_2 a0_3 a0_4 a0_5 a0_6 a0_7 a0_8 a0_9 a0_10 a0_11 a0_12 a0_13 a1_0 a1_1 a1_2 a1_3 a1_4 a1_5 a1_6 a1_7 a1_8 a1_9 a1_10 a1_11 a1_12 a1_13 w0 w1
  refine (laws_FnExactBefore.calls k a0_0 a0_1 a0_2 a0_3 a0_4 a0_5 a0_6 a0_7 a0_8 a0_9 a0_10 a0_11 a0_12 a0_13 a1_0 a1_1 a1_2 a1_3 a1_4 a1_5 a1_6 a1_7 a1_8 a1_9 a1_10 a1_11 a1_12 a1_13 true w  h).mono ?_
  rintro e w' ⟨rfl, hd⟩
  exact ⟨rfl, hd⟩

end Go.Proofs.Ytnokdjkkgcpbdaa.Print
