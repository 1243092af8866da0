/- Go functions as plain Lean functions, and that the Go code answers just as these, wherever they answer. Conditions: those of each theorem. Written by a program of this session (wip/patch.py). -/
import Derived.Test.YtbcpjbgcmkifiaaPrint0
import Derived.Test.YtbcpjbgcmkifiaaPrint13
import Derived.Test.YtbcpjbgcmkifiaaPrint21
import Derived.Test.YtbcpjbgcmkifiaaPrint23
namespace Go.Proofs.Ytbcpjbgcmkifiaa.Print
open Go.RowKit Go.Proofs.Ytbcpjbgcmkifiaa.Base Go.Proofs.YtbcpjbgcmkifiaaW.PrintWords Go.Proofs.YtbcpjbgcmkifiaaW.PrintLast Go.Proofs.YtbcpjbgcmkifiaaW.PrintMore
attribute [local go_sem] max2_int min2_int max_two min_two max_three min_three max_four min_four   -- for this text's walks alone
set_option linter.unusedVariables false
set_option linter.unusedSimpArgs false

/-! ### laws_FnExactFairBefore: function 14 -/
def laws_FnExactFairBefore.f (a0_0 : Int) (a0_1 : Int) (a0_2 : Int) (a0_3 : Int) (a0_4 : Bool) (a0_5 : Int) (a0_6 : Int) (a0_7 : Int) (a0_8 : Int) (a0_9 : Int) (a0_10 : Int) (a0_11 : Int) (a0_12 : Int) (a0_13 : Int) (a1_0 : Int) (a1_1 : Int) (a1_2 : Int) (a1_3 : Int) (a1_4 : Bool) (a1_5 : Int) (a1_6 : Int) (a1_7 : Int) (a1_8 : Int) (a1_9 : Int) (a1_10 : Int) (a1_11 : Int) (a1_12 : Int) (a1_13 : Int) : Option (Bool) := (laws_toTask.f a0_0 a0_1 a0_2 a0_3 a0_4 a0_5 a0_6 a0_7 a0_8 a0_9 a0_10 a0_11 a0_12 a0_13).bind fun bt410 => ((laws_toTask.f a1_0 a1_1 a1_2 a1_3 a1_4 a1_5 a1_6 a1_7 a1_8 a1_9 a1_10 a1_11 a1_12 a1_13).bind fun bt424 => ((spec_FairBefore.f bt410.1 bt410.2.1 bt410.2.2.1 bt410.2.2.2.1 bt410.2.2.2.2.1 bt410.2.2.2.2.2.1 bt410.2.2.2.2.2.2.1 bt410.2.2.2.2.2.2.2.1 bt410.2.2.2.2.2.2.2.2.1 bt410.2.2.2.2.2.2.2.2.2.1 bt410.2.2.2.2.2.2.2.2.2.2.1 bt410.2.2.2.2.2.2.2.2.2.2.2.1 bt410.2.2.2.2.2.2.2.2.2.2.2.2.1 bt410.2.2.2.2.2.2.2.2.2.2.2.2.2 bt424.1 bt424.2.1 bt424.2.2.1 bt424.2.2.2.1 bt424.2.2.2.2.1 bt424.2.2.2.2.2.1 bt424.2.2.2.2.2.2.1 bt424.2.2.2.2.2.2.2.1 bt424.2.2.2.2.2.2.2.2.1 bt424.2.2.2.2.2.2.2.2.2.1 bt424.2.2.2.2.2.2.2.2.2.2.1 bt424.2.2.2.2.2.2.2.2.2.2.2.1 bt424.2.2.2.2.2.2.2.2.2.2.2.2.1 bt424.2.2.2.2.2.2.2.2.2.2.2.2.2).bind fun t438 => ((laws_toTask.f a0_0 a0_1 a0_2 a0_3 a0_4 a0_5 a0_6 a0_7 a0_8 a0_9 a0_10 a0_11 a0_12 a0_13).bind fun bt439 => ((laws_toTask.f a1_0 a1_1 a1_2 a1_3 a1_4 a1_5 a1_6 a1_7 a1_8 a1_9 a1_10 a1_11 a1_12 a1_13).bind fun bt453 => ((impl_FairBefore.f bt439.1 bt439.2.1 bt439.2.2.1 bt439.2.2.2.1 bt439.2.2.2.2.1 bt439.2.2.2.2.2.1 bt439.2.2.2.2.2.2.1 bt439.2.2.2.2.2.2.2.1 bt439.2.2.2.2.2.2.2.2.1 bt439.2.2.2.2.2.2.2.2.2.1 bt439.2.2.2.2.2.2.2.2.2.2.1 bt439.2.2.2.2.2.2.2.2.2.2.2.1 bt439.2.2.2.2.2.2.2.2.2.2.2.2.1 bt439.2.2.2.2.2.2.2.2.2.2.2.2.2 bt453.1 bt453.2.1 bt453.2.2.1 bt453.2.2.2.1 bt453.2.2.2.2.1 bt453.2.2.2.2.2.1 bt453.2.2.2.2.2.2.1 bt453.2.2.2.2.2.2.2.1 bt453.2.2.2.2.2.2.2.2.1 bt453.2.2.2.2.2.2.2.2.2.1 bt453.2.2.2.2.2.2.2.2.2.2.1 bt453.2.2.2.2.2.2.2.2.2.2.2.1 bt453.2.2.2.2.2.2.2.2.2.2.2.2.1 bt453.2.2.2.2.2.2.2.2.2.2.2.2.2).bind fun t467 => (if (t467 != t438) = true then (some false) else (some true)))))))
set_option maxHeartbeats 8000000 in
set_option maxRecDepth 100000 in
theorem laws_FnExactFairBefore.calls (a0_0 : Int) (a0_1 : Int) (a0_2 : Int) (a0_3 : Int) (a0_4 : Bool) (a0_5 : Int) (a0_6 : Int) (a0_7 : Int) (a0_8 : Int) (a0_9 : Int) (a0_10 : Int) (a0_11 : Int) (a0_12 : Int) (a0_13 : Int) (a1_0 : Int) (a1_1 : Int) (a1_2 : Int) (a1_3 : Int) (a1_4 : Bool) (a1_5 : Int) (a1_6 : Int) (a1_7 : Int) (a1_8 : Int) (a1_9 : Int) (a1_10 : Int) (a1_11 : Int) (a1_12 : Int) (a1_13 : Int) (r : Bool) (w : World) (h : laws_FnExactFairBefore.f a0_0 a0_1 a0_2 a0_3 a0_4 a0_5 a0_6 a0_7 a0_8 a0_9 a0_10 a0_11 a0_12 a0_13 a1_0 a1_1 a1_2 a1_3 a1_4 a1_5 a1_6 a1_7 a1_8 a1_9 a1_10 a1_11 a1_12 a1_13 = some r) :
    Calls Try.prog 14 #[.agg #[.int .i64 a0_0, .int .i64 a0_1, .int .i64 a0_2, .int .i64 a0_3, .bool a0_4, .int .i64 a0_5, .int .i64 a0_6, .int .i64 a0_7, .int .i64 a0_8, .int .i64 a0_9, .int .i64 a0_10, .int .i64 a0_11, .int .i64 a0_12, .int .i64 a0_13], .agg #[.int .i64 a1_0, .int .i64 a1_1, .int .i64 a1_2, .int .i64 a1_3, .bool a1_4, .int .i64 a1_5, .int .i64 a1_6, .int .i64 a1_7, .int .i64 a1_8, .int .i64 a1_9, .int .i64 a1_10, .int .i64 a1_11, .int .i64 a1_12, .int .i64 a1_13]] w fun e w' => e = .returned (.bool r) ∧ Below w.heap.size w w' := by
  have hu46 := Try.underlying46
  have HB := Aside0.mk (Below.refl w.heap.size w)
  have H : ((laws_toTask.f a0_0 a0_1 a0_2 a0_3 a0_4 a0_5 a0_6 a0_7 a0_8 a0_9 a0_10 a0_11 a0_12 a0_13).bind fun bt410 => ((laws_toTask.f a1_0 a1_1 a1_2 a1_3 a1_4 a1_5 a1_6 a1_7 a1_8 a1_9 a1_10 a1_11 a1_12 a1_13).bind fun bt424 => ((spec_FairBefore.f bt410.1 bt410.2.1 bt410.2.2.1 bt410.2.2.2.1 bt410.2.2.2.2.1 bt410.2.2.2.2.2.1 bt410.2.2.2.2.2.2.1 bt410.2.2.2.2.2.2.2.1 bt410.2.2.2.2.2.2.2.2.1 bt410.2.2.2.2.2.2.2.2.2.1 bt410.2.2.2.2.2.2.2.2.2.2.1 bt410.2.2.2.2.2.2.2.2.2.2.2.1 bt410.2.2.2.2.2.2.2.2.2.2.2.2.1 bt410.2.2.2.2.2.2.2.2.2.2.2.2.2 bt424.1 bt424.2.1 bt424.2.2.1 bt424.2.2.2.1 bt424.2.2.2.2.1 bt424.2.2.2.2.2.1 bt424.2.2.2.2.2.2.1 bt424.2.2.2.2.2.2.2.1 bt424.2.2.2.2.2.2.2.2.1 bt424.2.2.2.2.2.2.2.2.2.1 bt424.2.2.2.2.2.2.2.2.2.2.1 bt424.2.2.2.2.2.2.2.2.2.2.2.1 bt424.2.2.2.2.2.2.2.2.2.2.2.2.1 bt424.2.2.2.2.2.2.2.2.2.2.2.2.2).bind fun t438 => ((laws_toTask.f a0_0 a0_1 a0_2 a0_3 a0_4 a0_5 a0_6 a0_7 a0_8 a0_9 a0_10 a0_11 a0_12 a0_13).bind fun bt439 => ((laws_toTask.f a1_0 a1_1 a1_2 a1_3 a1_4 a1_5 a1_6 a1_7 a1_8 a1_9 a1_10 a1_11 a1_12 a1_13).bind fun bt453 => ((impl_FairBefore.f bt439.1 bt439.2.1 bt439.2.2.1 bt439.2.2.2.1 bt439.2.2.2.2.1 bt439.2.2.2.2.2.1 bt439.2.2.2.2.2.2.1 bt439.2.2.2.2.2.2.2.1 bt439.2.2.2.2.2.2.2.2.1 bt439.2.2.2.2.2.2.2.2.2.1 bt439.2.2.2.2.2.2.2.2.2.2.1 bt439.2.2.2.2.2.2.2.2.2.2.2.1 bt439.2.2.2.2.2.2.2.2.2.2.2.2.1 bt439.2.2.2.2.2.2.2.2.2.2.2.2.2 bt453.1 bt453.2.1 bt453.2.2.1 bt453.2.2.2.1 bt453.2.2.2.2.1 bt453.2.2.2.2.2.1 bt453.2.2.2.2.2.2.1 bt453.2.2.2.2.2.2.2.1 bt453.2.2.2.2.2.2.2.2.1 bt453.2.2.2.2.2.2.2.2.2.1 bt453.2.2.2.2.2.2.2.2.2.2.1 bt453.2.2.2.2.2.2.2.2.2.2.2.1 bt453.2.2.2.2.2.2.2.2.2.2.2.2.1 bt453.2.2.2.2.2.2.2.2.2.2.2.2.2).bind fun t467 => (if (t467 != t438) = true then (some false) else (some true)))))))) = some r := h
  clear h
  replace H := Option.bind_eq_some_iff.mp H
  obtain ⟨⟨t410, t411, t412, t413, t414, t415, t416, t417, t418, t419, t420, t421, t422, t423⟩, A30, H⟩ := H
  replace H : ((laws_toTask.f a1_0 a1_1 a1_2 a1_3 a1_4 a1_5 a1_6 a1_7 a1_8 a1_9 a1_10 a1_11 a1_12 a1_13).bind fun bt424 => ((spec_FairBefore.f t410 t411 t412 t413 t414 t415 t416 t417 t418 t419 t420 t421 t422 t423 bt424.1 bt424.2.1 bt424.2.2.1 bt424.2.2.2.1 bt424.2.2.2.2.1 bt424.2.2.2.2.2.1 bt424.2.2.2.2.2.2.1 bt424.2.2.2.2.2.2.2.1 bt424.2.2.2.2.2.2.2.2.1 bt424.2.2.2.2.2.2.2.2.2.1 bt424.2.2.2.2.2.2.2.2.2.2.1 bt424.2.2.2.2.2.2.2.2.2.2.2.1 bt424.2.2.2.2.2.2.2.2.2.2.2.2.1 bt424.2.2.2.2.2.2.2.2.2.2.2.2.2).bind fun t438 => ((laws_toTask.f a0_0 a0_1 a0_2 a0_3 a0_4 a0_5 a0_6 a0_7 a0_8 a0_9 a0_10 a0_11 a0_12 a0_13).bind fun bt439 => ((laws_toTask.f a1_0 a1_1 a1_2 a1_3 a1_4 a1_5 a1_6 a1_7 a1_8 a1_9 a1_10 a1_11 a1_12 a1_13).bind fun bt453 => ((impl_FairBefore.f bt439.1 bt439.2.1 bt439.2.2.1 bt439.2.2.2.1 bt439.2.2.2.2.1 bt439.2.2.2.2.2.1 bt439.2.2.2.2.2.2.1 bt439.2.2.2.2.2.2.2.1 bt439.2.2.2.2.2.2.2.2.1 bt439.2.2.2.2.2.2.2.2.2.1 bt439.2.2.2.2.2.2.2.2.2.2.1 bt439.2.2.2.2.2.2.2.2.2.2.2.1 bt439.2.2.2.2.2.2.2.2.2.2.2.2.1 bt439.2.2.2.2.2.2.2.2.2.2.2.2.2 bt453.1 bt453.2.1 bt453.2.2.1 bt453.2.2.2.1 bt453.2.2.2.2.1 bt453.2.2.2.2.2.1 bt453.2.2.2.2.2.2.1 bt453.2.2.2.2.2.2.2.1 bt453.2.2.2.2.2.2.2.2.1 bt453.2.2.2.2.2.2.2.2.2.1 bt453.2.2.2.2.2.2.2.2.2.2.1 bt453.2.2.2.2.2.2.2.2.2.2.2.1 bt453.2.2.2.2.2.2.2.2.2.2.2.2.1 bt453.2.2.2.2.2.2.2.2.2.2.2.2.2).bind fun t467 => (if (t467 != t438) = true then (some false) else (some true))))))) = some r := H
  have A3 := Aside0.mk A30
  clear A30
  replace H := Option.bind_eq_some_iff.mp H
  obtain ⟨⟨t424, t425, t426, t427, t428, t429, t430, t431, t432, t433, t434, t435, t436, t437⟩, A40, H⟩ := H
  replace H : ((spec_FairBefore.f t410 t411 t412 t413 t414 t415 t416 t417 t418 t419 t420 t421 t422 t423 t424 t425 t426 t427 t428 t429 t430 t431 t432 t433 t434 t435 t436 t437).bind fun t438 => ((laws_toTask.f a0_0 a0_1 a0_2 a0_3 a0_4 a0_5 a0_6 a0_7 a0_8 a0_9 a0_10 a0_11 a0_12 a0_13).bind fun bt439 => ((laws_toTask.f a1_0 a1_1 a1_2 a1_3 a1_4 a1_5 a1_6 a1_7 a1_8 a1_9 a1_10 a1_11 a1_12 a1_13).bind fun bt453 => ((impl_FairBefore.f bt439.1 bt439.2.1 bt439.2.2.1 bt439.2.2.2.1 bt439.2.2.2.2.1 bt439.2.2.2.2.2.1 bt439.2.2.2.2.2.2.1 bt439.2.2.2.2.2.2.2.1 bt439.2.2.2.2.2.2.2.2.1 bt439.2.2.2.2.2.2.2.2.2.1 bt439.2.2.2.2.2.2.2.2.2.2.1 bt439.2.2.2.2.2.2.2.2.2.2.2.1 bt439.2.2.2.2.2.2.2.2.2.2.2.2.1 bt439.2.2.2.2.2.2.2.2.2.2.2.2.2 bt453.1 bt453.2.1 bt453.2.2.1 bt453.2.2.2.1 bt453.2.2.2.2.1 bt453.2.2.2.2.2.1 bt453.2.2.2.2.2.2.1 bt453.2.2.2.2.2.2.2.1 bt453.2.2.2.2.2.2.2.2.1 bt453.2.2.2.2.2.2.2.2.2.1 bt453.2.2.2.2.2.2.2.2.2.2.1 bt453.2.2.2.2.2.2.2.2.2.2.2.1 bt453.2.2.2.2.2.2.2.2.2.2.2.2.1 bt453.2.2.2.2.2.2.2.2.2.2.2.2.2).bind fun t467 => (if (t467 != t438) = true then (some false) else (some true)))))) = some r := H
  have A4 := Aside0.mk A40
  clear A40
  replace H := Option.bind_eq_some_iff.mp H
  obtain ⟨t438, A50, H⟩ := H
  replace H : ((laws_toTask.f a0_0 a0_1 a0_2 a0_3 a0_4 a0_5 a0_6 a0_7 a0_8 a0_9 a0_10 a0_11 a0_12 a0_13).bind fun bt439 => ((laws_toTask.f a1_0 a1_1 a1_2 a1_3 a1_4 a1_5 a1_6 a1_7 a1_8 a1_9 a1_10 a1_11 a1_12 a1_13).bind fun bt453 => ((impl_FairBefore.f bt439.1 bt439.2.1 bt439.2.2.1 bt439.2.2.2.1 bt439.2.2.2.2.1 bt439.2.2.2.2.2.1 bt439.2.2.2.2.2.2.1 bt439.2.2.2.2.2.2.2.1 bt439.2.2.2.2.2.2.2.2.1 bt439.2.2.2.2.2.2.2.2.2.1 bt439.2.2.2.2.2.2.2.2.2.2.1 bt439.2.2.2.2.2.2.2.2.2.2.2.1 bt439.2.2.2.2.2.2.2.2.2.2.2.2.1 bt439.2.2.2.2.2.2.2.2.2.2.2.2.2 bt453.1 bt453.2.1 bt453.2.2.1 bt453.2.2.2.1 bt453.2.2.2.2.1 bt453.2.2.2.2.2.1 bt453.2.2.2.2.2.2.1 bt453.2.2.2.2.2.2.2.1 bt453.2.2.2.2.2.2.2.2.1 bt453.2.2.2.2.2.2.2.2.2.1 bt453.2.2.2.2.2.2.2.2.2.2.1 bt453.2.2.2.2.2.2.2.2.2.2.2.1 bt453.2.2.2.2.2.2.2.2.2.2.2.2.1 bt453.2.2.2.2.2.2.2.2.2.2.2.2.2).bind fun t467 => (if (t467 != t438) = true then (some false) else (some true))))) = some r := H
  have A5 := Aside0.mk A50
  clear A50
  replace H := Option.bind_eq_some_iff.mp H
  obtain ⟨⟨t439, t440, t441, t442, t443, t444, t445, t446, t447, t448, t449, t450, t451, t452⟩, A60, H⟩ := H
  replace H : ((laws_toTask.f a1_0 a1_1 a1_2 a1_3 a1_4 a1_5 a1_6 a1_7 a1_8 a1_9 a1_10 a1_11 a1_12 a1_13).bind fun bt453 => ((impl_FairBefore.f t439 t440 t441 t442 t443 t444 t445 t446 t447 t448 t449 t450 t451 t452 bt453.1 bt453.2.1 bt453.2.2.1 bt453.2.2.2.1 bt453.2.2.2.2.1 bt453.2.2.2.2.2.1 bt453.2.2.2.2.2.2.1 bt453.2.2.2.2.2.2.2.1 bt453.2.2.2.2.2.2.2.2.1 bt453.2.2.2.2.2.2.2.2.2.1 bt453.2.2.2.2.2.2.2.2.2.2.1 bt453.2.2.2.2.2.2.2.2.2.2.2.1 bt453.2.2.2.2.2.2.2.2.2.2.2.2.1 bt453.2.2.2.2.2.2.2.2.2.2.2.2.2).bind fun t467 => (if (t467 != t438) = true then (some false) else (some true)))) = some r := H
  have A6 := Aside0.mk A60
  clear A60
  replace H := Option.bind_eq_some_iff.mp H
  obtain ⟨⟨t453, t454, t455, t456, t457, t458, t459, t460, t461, t462, t463, t464, t465, t466⟩, A70, H⟩ := H
  replace H : ((impl_FairBefore.f t439 t440 t441 t442 t443 t444 t445 t446 t447 t448 t449 t450 t451 t452 t453 t454 t455 t456 t457 t458 t459 t460 t461 t462 t463 t464 t465 t466).bind fun t467 => (if (t467 != t438) = true then (some false) else (some true))) = some r := H
  have A7 := Aside0.mk A70
  clear A70
  replace H := Option.bind_eq_some_iff.mp H
  obtain ⟨t467, A80, H⟩ := H
  replace H : (if (t467 != t438) = true then (some false) else (some true)) = some r := H
  have A8 := Aside0.mk A80
  clear A80
  by_cases c9 : (t467 != t438) = true
  · rw [if_pos c9] at H
    have c9b0 : (t467 != t438) = true := c9
    (try (have c9b1 : decide (t467 = t438) = false := by simpa using c9))
    (try (have c9b2 : (t467 == t438) = false := by simpa using c9))
    (try (have c9b3 : ¬ (t467 = t438) := by simpa using c9))
    clear c9
    obtain rfl := Option.some.inj H
    go_enter Try.func14, Try.ntmps14
    try go_wp2_with (first | ((with_reducible refine gate_dst (N := 2) rfl ?_); refine box_event ?hg (N := 2) ?hd (cs := #[.int .i64 a0_0, .int .i64 a0_1, .int .i64 a0_2, .int .i64 a0_3, .bool a0_4, .int .i64 a0_5, .int .i64 a0_6, .int .i64 a0_7, .int .i64 a0_8, .int .i64 a0_9, .int .i64 a0_10, .int .i64 a0_11, .int .i64 a0_12, .int .i64 a0_13]) (t := 46) ?hr ?_; (case hd => rfl); (case hg => rfl); (case hr => first | (go_simp; done) | (go_simp; rfl)); intro gb408 hg w10 hbox hb; have n0_ := Aside0.mk (below_step (by repeat (first | (with_reducible first | exact HB.out | apply below_alloc | apply pw_below_drewN | apply below_drew1) | exact HB.out)) hb); have n1_ := Aside0.mk (hbox); have n2_ := Aside0.mk ((by rw [hg]; exact (below_size (by repeat (first | (with_reducible first | exact HB.out | apply below_alloc | apply pw_below_drewN | apply below_drew1) | exact HB.out))) : w.heap.size ≤ gb408)); have n3_ := Aside0.mk ((by rw [hg]; exact (below_size (by repeat (first | (with_reducible first | exact HB.out | apply below_alloc | apply pw_below_drewN | apply below_drew1) | exact HB.out))) : w.heap.size ≤ gb408)); clear HB; have HB := n0_; have BK408 := n1_; have GW408 := n2_; have GE408 := n3_; clear n0_ n1_ n2_ n3_; clear hb hbox hg) | ((with_reducible refine gate_dst (N := 3) rfl ?_); refine box_event ?hg (N := 3) ?hd (cs := #[.int .i64 a1_0, .int .i64 a1_1, .int .i64 a1_2, .int .i64 a1_3, .bool a1_4, .int .i64 a1_5, .int .i64 a1_6, .int .i64 a1_7, .int .i64 a1_8, .int .i64 a1_9, .int .i64 a1_10, .int .i64 a1_11, .int .i64 a1_12, .int .i64 a1_13]) (t := 46) ?hr ?_; (case hd => rfl); (case hg => rfl); (case hr => first | (go_simp; done) | (go_simp; rfl)); intro gb409 hg w11 hbox hb; have n0_ := Aside0.mk (blk_below (g := gb408) (o := .cells #[.int .i64 a0_0, .int .i64 a0_1, .int .i64 a0_2, .int .i64 a0_3, .bool a0_4, .int .i64 a0_5, .int .i64 a0_6, .int .i64 a0_7, .int .i64 a0_8, .int .i64 a0_9, .int .i64 a0_10, .int .i64 a0_11, .int .i64 a0_12, .int .i64 a0_13] 46 (0, 0)) (by (with_reducible repeat (first | refine blk_drewN ?_ _ | refine blk_drew ?_ | refine blk_alloc ?_ _)); exact BK408.out) hb); have n1_ := Aside0.mk (below_step (by repeat (first | (with_reducible first | exact HB.out | apply below_alloc | apply pw_below_drewN | apply below_drew1 | refine below_set ?_ GE408.out) | exact HB.out)) hb); have n2_ := Aside0.mk (hbox); have n3_ := Aside0.mk ((by rw [hg]; exact (below_size (by repeat (first | (with_reducible first | exact HB.out | apply below_alloc | apply pw_below_drewN | apply below_drew1 | refine below_set ?_ GE408.out) | exact HB.out))) : w.heap.size ≤ gb409)); have n4_ := Aside0.mk ((by rw [hg]; exact (below_size (by repeat (first | (with_reducible first | exact HB.out | apply below_alloc | apply pw_below_drewN | apply below_drew1 | refine below_set ?_ GE408.out) | exact HB.out))) : w.heap.size ≤ gb409)); have n5_ := Aside0.mk ((by rw [hg]; exact Nat.ne_of_lt (blk_lt (g := gb408) (o := .cells #[.int .i64 a0_0, .int .i64 a0_1, .int .i64 a0_2, .int .i64 a0_3, .bool a0_4, .int .i64 a0_5, .int .i64 a0_6, .int .i64 a0_7, .int .i64 a0_8, .int .i64 a0_9, .int .i64 a0_10, .int .i64 a0_11, .int .i64 a0_12, .int .i64 a0_13] 46 (0, 0)) (by (with_reducible repeat (first | refine blk_drewN ?_ _ | refine blk_drew ?_ | refine blk_alloc ?_ _)); exact BK408.out)) : gb408 ≠ gb409)); have n6_ := Aside0.mk ((by rw [hg]; exact Nat.ne_of_gt (blk_lt (g := gb408) (o := .cells #[.int .i64 a0_0, .int .i64 a0_1, .int .i64 a0_2, .int .i64 a0_3, .bool a0_4, .int .i64 a0_5, .int .i64 a0_6, .int .i64 a0_7, .int .i64 a0_8, .int .i64 a0_9, .int .i64 a0_10, .int .i64 a0_11, .int .i64 a0_12, .int .i64 a0_13] 46 (0, 0)) (by (with_reducible repeat (first | refine blk_drewN ?_ _ | refine blk_drew ?_ | refine blk_alloc ?_ _)); exact BK408.out)) : gb409 ≠ gb408)); clear BK408; clear HB; have BK408 := n0_; have HB := n1_; have BK409 := n2_; have GW409 := n3_; have GE409 := n4_; have NB408_409 := n5_; have NB409_408 := n6_; clear n0_ n1_ n2_ n3_ n4_ n5_ n6_; clear hb hbox hg))
    have n0_ := Aside0.mk (blk_drew BK408.out)
    have n1_ := Aside0.mk (blk_drew BK409.out)
    have n2_ := Aside0.mk (below_drew1 HB.out)
    clear BK408
    clear BK409
    clear HB
    have BK408 := n0_
    have BK409 := n1_
    have HB := n2_
    clear n0_ n1_ n2_
    refine start_ (n := 6) (S := fun w' => w'.cell? ⟨gb408, 0, none⟩ = some (.int .i64 a0_0) ∧ w'.cell? ⟨gb408, 1, none⟩ = some (.int .i64 a0_1) ∧ w'.cell? ⟨gb408, 2, none⟩ = some (.int .i64 a0_2) ∧ w'.cell? ⟨gb408, 3, none⟩ = some (.int .i64 a0_3) ∧ w'.cell? ⟨gb408, 4, none⟩ = some (.bool a0_4) ∧ w'.cell? ⟨gb408, 5, none⟩ = some (.int .i64 a0_5) ∧ w'.cell? ⟨gb408, 6, none⟩ = some (.int .i64 a0_6) ∧ w'.cell? ⟨gb408, 7, none⟩ = some (.int .i64 a0_7) ∧ w'.cell? ⟨gb408, 8, none⟩ = some (.int .i64 a0_8) ∧ w'.cell? ⟨gb408, 9, none⟩ = some (.int .i64 a0_9) ∧ w'.cell? ⟨gb408, 10, none⟩ = some (.int .i64 a0_10) ∧ w'.cell? ⟨gb408, 11, none⟩ = some (.int .i64 a0_11) ∧ w'.cell? ⟨gb408, 12, none⟩ = some (.int .i64 a0_12) ∧ w'.cell? ⟨gb408, 13, none⟩ = some (.int .i64 a0_13) ∧ w'.cell? ⟨gb409, 0, none⟩ = some (.int .i64 a1_0) ∧ w'.cell? ⟨gb409, 1, none⟩ = some (.int .i64 a1_1) ∧ w'.cell? ⟨gb409, 2, none⟩ = some (.int .i64 a1_2) ∧ w'.cell? ⟨gb409, 3, none⟩ = some (.int .i64 a1_3) ∧ w'.cell? ⟨gb409, 4, none⟩ = some (.bool a1_4) ∧ w'.cell? ⟨gb409, 5, none⟩ = some (.int .i64 a1_5) ∧ w'.cell? ⟨gb409, 6, none⟩ = some (.int .i64 a1_6) ∧ w'.cell? ⟨gb409, 7, none⟩ = some (.int .i64 a1_7) ∧ w'.cell? ⟨gb409, 8, none⟩ = some (.int .i64 a1_8) ∧ w'.cell? ⟨gb409, 9, none⟩ = some (.int .i64 a1_9) ∧ w'.cell? ⟨gb409, 10, none⟩ = some (.int .i64 a1_10) ∧ w'.cell? ⟨gb409, 11, none⟩ = some (.int .i64 a1_11) ∧ w'.cell? ⟨gb409, 12, none⟩ = some (.int .i64 a1_12) ∧ w'.cell? ⟨gb409, 13, none⟩ = some (.int .i64 a1_13)) (ds := []) #[false, false, false, false, false, false] (by kernel_rfl) rfl rfl ⟨(blk_cell BK408.out 0).trans rfl, (blk_cell BK408.out 1).trans rfl, (blk_cell BK408.out 2).trans rfl, (blk_cell BK408.out 3).trans rfl, (blk_cell BK408.out 4).trans rfl, (blk_cell BK408.out 5).trans rfl, (blk_cell BK408.out 6).trans rfl, (blk_cell BK408.out 7).trans rfl, (blk_cell BK408.out 8).trans rfl, (blk_cell BK408.out 9).trans rfl, (blk_cell BK408.out 10).trans rfl, (blk_cell BK408.out 11).trans rfl, (blk_cell BK408.out 12).trans rfl, (blk_cell BK408.out 13).trans rfl, (blk_cell BK409.out 0).trans rfl, (blk_cell BK409.out 1).trans rfl, (blk_cell BK409.out 2).trans rfl, (blk_cell BK409.out 3).trans rfl, (blk_cell BK409.out 4).trans rfl, (blk_cell BK409.out 5).trans rfl, (blk_cell BK409.out 6).trans rfl, (blk_cell BK409.out 7).trans rfl, (blk_cell BK409.out 8).trans rfl, (blk_cell BK409.out 9).trans rfl, (blk_cell BK409.out 10).trans rfl, (blk_cell BK409.out 11).trans rfl, (blk_cell BK409.out 12).trans rfl, (blk_cell BK409.out 13).trans rfl⟩ (fun hHeld => ?_)
    generalize w11.drew = w12 at BK408 BK409 HB hHeld ⊢
    refine take_ (i := 0) (N := some 7) (v := ?_) (a' := ?_) #[true, false, false, false, false, false] rfl rfl (by kernel_rfl) (fun _ _ _ h => h) (Or.inl ⟨by rfl, ?_⟩) hHeld ?_ ?_
    rotate_left
    · rintro w' ⟨s0, s1, s2, s3, s4, s5, s6, s7, s8, s9, s10, s11, s12, s13, s14, s15, s16, s17, s18, s19, s20, s21, s22, s23, s24, s25, s26, s27⟩
      go_simp
      with_reducible rfl
    rotate_left
    · simp only [Act.put, List.setIfInBounds_toArray, List.set_cons_zero, List.set_cons_succ, i64_w, i32_w]
      rfl
    refine take_ (i := 2) (N := some 9) (v := ?_) (a' := ?_) #[true, false, true, false, false, false] rfl rfl (by kernel_rfl) (fun _ _ _ h => h) (Or.inl ⟨by rfl, ?_⟩) hHeld ?_ ?_
    rotate_left
    · rintro w' ⟨s0, s1, s2, s3, s4, s5, s6, s7, s8, s9, s10, s11, s12, s13, s14, s15, s16, s17, s18, s19, s20, s21, s22, s23, s24, s25, s26, s27⟩
      go_simp
      with_reducible rfl
    rotate_left
    · simp only [Act.put, List.setIfInBounds_toArray, List.set_cons_zero, List.set_cons_succ, i64_w, i32_w]
      rfl
    refine one_ (i := 1) (N := some 8) #[true, true, true, false, false, false] rfl rfl (by kernel_rfl) (by decide) (fun K hK => ?_)
    refine goes_ Try.func35 (by kernel_rfl) rfl #[.agg #[.int .i64 a0_0, .int .i64 a0_1, .int .i64 a0_2, .int .i64 a0_3, .bool a0_4, .int .i64 a0_5, .int .i64 a0_6, .int .i64 a0_7, .int .i64 a0_8, .int .i64 a0_9, .int .i64 a0_10, .int .i64 a0_11, .int .i64 a0_12, .int .i64 a0_13]] (by rfl) rfl rfl (by (try simp only [List.map_toArray, List.map_cons, List.map_nil]); first | done | rfl | (simp only [List.length_drop, List.length_take]; rfl)) ?_
    with_reducible refine (laws_toTask.calls a0_0 a0_1 a0_2 a0_3 a0_4 a0_5 a0_6 a0_7 a0_8 a0_9 a0_10 a0_11 a0_12 a0_13 t410 t411 t412 t413 t414 t415 t416 t417 t418 t419 t420 t421 t422 t423 _ A3.out).mono ?_
    rintro e w13 ⟨rfl, hb⟩
    refine ⟨_, rfl, ?_⟩
    have n0_ := Aside0.mk (blk_below (g := gb408) (o := .cells #[.int .i64 a0_0, .int .i64 a0_1, .int .i64 a0_2, .int .i64 a0_3, .bool a0_4, .int .i64 a0_5, .int .i64 a0_6, .int .i64 a0_7, .int .i64 a0_8, .int .i64 a0_9, .int .i64 a0_10, .int .i64 a0_11, .int .i64 a0_12, .int .i64 a0_13] 46 (0, 0)) (by (with_reducible repeat (first | refine blk_drewN ?_ _ | refine blk_drew ?_ | refine blk_alloc ?_ _)); exact BK408.out) hb)
    have n1_ := Aside0.mk (blk_below (g := gb409) (o := .cells #[.int .i64 a1_0, .int .i64 a1_1, .int .i64 a1_2, .int .i64 a1_3, .bool a1_4, .int .i64 a1_5, .int .i64 a1_6, .int .i64 a1_7, .int .i64 a1_8, .int .i64 a1_9, .int .i64 a1_10, .int .i64 a1_11, .int .i64 a1_12, .int .i64 a1_13] 46 (0, 0)) (by (with_reducible repeat (first | refine blk_drewN ?_ _ | refine blk_drew ?_ | refine blk_alloc ?_ _)); exact BK409.out) hb)
    have n2_ := Aside0.mk (below_step (by repeat (first | (with_reducible first | exact HB.out | apply below_alloc | apply pw_below_drewN | apply below_drew1 | refine below_set ?_ GE408.out | refine below_set ?_ GE409.out) | exact HB.out)) hb)
    clear BK408
    clear BK409
    clear HB
    have BK408 := n0_
    have BK409 := n1_
    have HB := n2_
    clear n0_ n1_ n2_
    (try clear hb)
    (try clear hb2)
    (try clear hk)
    (try clear hi)
    refine hK.out _ _ ⟨(blk_cell BK408.out 0).trans rfl, (blk_cell BK408.out 1).trans rfl, (blk_cell BK408.out 2).trans rfl, (blk_cell BK408.out 3).trans rfl, (blk_cell BK408.out 4).trans rfl, (blk_cell BK408.out 5).trans rfl, (blk_cell BK408.out 6).trans rfl, (blk_cell BK408.out 7).trans rfl, (blk_cell BK408.out 8).trans rfl, (blk_cell BK408.out 9).trans rfl, (blk_cell BK408.out 10).trans rfl, (blk_cell BK408.out 11).trans rfl, (blk_cell BK408.out 12).trans rfl, (blk_cell BK408.out 13).trans rfl, (blk_cell BK409.out 0).trans rfl, (blk_cell BK409.out 1).trans rfl, (blk_cell BK409.out 2).trans rfl, (blk_cell BK409.out 3).trans rfl, (blk_cell BK409.out 4).trans rfl, (blk_cell BK409.out 5).trans rfl, (blk_cell BK409.out 6).trans rfl, (blk_cell BK409.out 7).trans rfl, (blk_cell BK409.out 8).trans rfl, (blk_cell BK409.out 9).trans rfl, (blk_cell BK409.out 10).trans rfl, (blk_cell BK409.out 11).trans rfl, (blk_cell BK409.out 12).trans rfl, (blk_cell BK409.out 13).trans rfl⟩ (fun hHeld => ?_)
    clear hK K
    refine norm_ (a' := ?_) ?_ ?_
    rotate_left
    · show Act.put _ (some 8) _ = _
      simp only [Act.put, List.setIfInBounds_toArray, List.set_cons_zero, List.set_cons_succ, i64_w, i32_w]
      rfl
    refine one_ (i := 3) (N := some 10) #[true, true, true, true, false, false] rfl rfl (by kernel_rfl) (by decide) (fun K hK => ?_)
    refine goes_ Try.func35 (by kernel_rfl) rfl #[.agg #[.int .i64 a1_0, .int .i64 a1_1, .int .i64 a1_2, .int .i64 a1_3, .bool a1_4, .int .i64 a1_5, .int .i64 a1_6, .int .i64 a1_7, .int .i64 a1_8, .int .i64 a1_9, .int .i64 a1_10, .int .i64 a1_11, .int .i64 a1_12, .int .i64 a1_13]] (by rfl) rfl rfl (by (try simp only [List.map_toArray, List.map_cons, List.map_nil]); first | done | rfl | (simp only [List.length_drop, List.length_take]; rfl)) ?_
    with_reducible refine (laws_toTask.calls a1_0 a1_1 a1_2 a1_3 a1_4 a1_5 a1_6 a1_7 a1_8 a1_9 a1_10 a1_11 a1_12 a1_13 t424 t425 t426 t427 t428 t429 t430 t431 t432 t433 t434 t435 t436 t437 _ A4.out).mono ?_
    rintro e w14 ⟨rfl, hb⟩
    refine ⟨_, rfl, ?_⟩
    have n0_ := Aside0.mk (blk_below (g := gb408) (o := .cells #[.int .i64 a0_0, .int .i64 a0_1, .int .i64 a0_2, .int .i64 a0_3, .bool a0_4, .int .i64 a0_5, .int .i64 a0_6, .int .i64 a0_7, .int .i64 a0_8, .int .i64 a0_9, .int .i64 a0_10, .int .i64 a0_11, .int .i64 a0_12, .int .i64 a0_13] 46 (0, 0)) (by (with_reducible repeat (first | refine blk_drewN ?_ _ | refine blk_drew ?_ | refine blk_alloc ?_ _)); exact BK408.out) hb)
    have n1_ := Aside0.mk (blk_below (g := gb409) (o := .cells #[.int .i64 a1_0, .int .i64 a1_1, .int .i64 a1_2, .int .i64 a1_3, .bool a1_4, .int .i64 a1_5, .int .i64 a1_6, .int .i64 a1_7, .int .i64 a1_8, .int .i64 a1_9, .int .i64 a1_10, .int .i64 a1_11, .int .i64 a1_12, .int .i64 a1_13] 46 (0, 0)) (by (with_reducible repeat (first | refine blk_drewN ?_ _ | refine blk_drew ?_ | refine blk_alloc ?_ _)); exact BK409.out) hb)
    have n2_ := Aside0.mk (below_step (by repeat (first | (with_reducible first | exact HB.out | apply below_alloc | apply pw_below_drewN | apply below_drew1 | refine below_set ?_ GE408.out | refine below_set ?_ GE409.out) | exact HB.out)) hb)
    clear BK408
    clear BK409
    clear HB
    have BK408 := n0_
    have BK409 := n1_
    have HB := n2_
    clear n0_ n1_ n2_
    (try clear hb)
    (try clear hb2)
    (try clear hk)
    (try clear hi)
    refine hK.out _ _ ⟨(blk_cell BK408.out 0).trans rfl, (blk_cell BK408.out 1).trans rfl, (blk_cell BK408.out 2).trans rfl, (blk_cell BK408.out 3).trans rfl, (blk_cell BK408.out 4).trans rfl, (blk_cell BK408.out 5).trans rfl, (blk_cell BK408.out 6).trans rfl, (blk_cell BK408.out 7).trans rfl, (blk_cell BK408.out 8).trans rfl, (blk_cell BK408.out 9).trans rfl, (blk_cell BK408.out 10).trans rfl, (blk_cell BK408.out 11).trans rfl, (blk_cell BK408.out 12).trans rfl, (blk_cell BK408.out 13).trans rfl, (blk_cell BK409.out 0).trans rfl, (blk_cell BK409.out 1).trans rfl, (blk_cell BK409.out 2).trans rfl, (blk_cell BK409.out 3).trans rfl, (blk_cell BK409.out 4).trans rfl, (blk_cell BK409.out 5).trans rfl, (blk_cell BK409.out 6).trans rfl, (blk_cell BK409.out 7).trans rfl, (blk_cell BK409.out 8).trans rfl, (blk_cell BK409.out 9).trans rfl, (blk_cell BK409.out 10).trans rfl, (blk_cell BK409.out 11).trans rfl, (blk_cell BK409.out 12).trans rfl, (blk_cell BK409.out 13).trans rfl⟩ (fun hHeld => ?_)
    clear hK K
    refine norm_ (a' := ?_) ?_ ?_
    rotate_left
    · show Act.put _ (some 10) _ = _
      simp only [Act.put, List.setIfInBounds_toArray, List.set_cons_zero, List.set_cons_succ, i64_w, i32_w]
      rfl
    refine one_ (i := 4) (N := some 11) #[true, true, true, true, true, false] rfl rfl (by kernel_rfl) (by decide) (fun K hK => ?_)
    refine goes_ Try.func39 (by kernel_rfl) rfl #[.agg #[.int .i64 t410, .int .i64 t411, .int .i64 t412, .int .i64 t413, .bool t414, .int .i64 t415, .int .i64 t416, .int .i64 t417, .int .i64 t418, .int .i64 t419, .int .i64 t420, .int .i64 t421, .int .i64 t422, .int .i64 t423], .agg #[.int .i64 t424, .int .i64 t425, .int .i64 t426, .int .i64 t427, .bool t428, .int .i64 t429, .int .i64 t430, .int .i64 t431, .int .i64 t432, .int .i64 t433, .int .i64 t434, .int .i64 t435, .int .i64 t436, .int .i64 t437]] (by rfl) rfl rfl (by (try simp only [List.map_toArray, List.map_cons, List.map_nil]); first | done | rfl | (simp only [List.length_drop, List.length_take]; rfl)) ?_
    with_reducible refine (spec_FairBefore.calls t410 t411 t412 t413 t414 t415 t416 t417 t418 t419 t420 t421 t422 t423 t424 t425 t426 t427 t428 t429 t430 t431 t432 t433 t434 t435 t436 t437 t438 _ A5.out).mono ?_
    rintro e w15 ⟨rfl, hb⟩
    refine ⟨_, rfl, ?_⟩
    have n0_ := Aside0.mk (blk_below (g := gb408) (o := .cells #[.int .i64 a0_0, .int .i64 a0_1, .int .i64 a0_2, .int .i64 a0_3, .bool a0_4, .int .i64 a0_5, .int .i64 a0_6, .int .i64 a0_7, .int .i64 a0_8, .int .i64 a0_9, .int .i64 a0_10, .int .i64 a0_11, .int .i64 a0_12, .int .i64 a0_13] 46 (0, 0)) (by (with_reducible repeat (first | refine blk_drewN ?_ _ | refine blk_drew ?_ | refine blk_alloc ?_ _)); exact BK408.out) hb)
    have n1_ := Aside0.mk (blk_below (g := gb409) (o := .cells #[.int .i64 a1_0, .int .i64 a1_1, .int .i64 a1_2, .int .i64 a1_3, .bool a1_4, .int .i64 a1_5, .int .i64 a1_6, .int .i64 a1_7, .int .i64 a1_8, .int .i64 a1_9, .int .i64 a1_10, .int .i64 a1_11, .int .i64 a1_12, .int .i64 a1_13] 46 (0, 0)) (by (with_reducible repeat (first | refine blk_drewN ?_ _ | refine blk_drew ?_ | refine blk_alloc ?_ _)); exact BK409.out) hb)
    have n2_ := Aside0.mk (below_step (by repeat (first | (with_reducible first | exact HB.out | apply below_alloc | apply pw_below_drewN | apply below_drew1 | refine below_set ?_ GE408.out | refine below_set ?_ GE409.out) | exact HB.out)) hb)
    clear BK408
    clear BK409
    clear HB
    have BK408 := n0_
    have BK409 := n1_
    have HB := n2_
    clear n0_ n1_ n2_
    (try clear hb)
    (try clear hb2)
    (try clear hk)
    (try clear hi)
    refine hK.out _ _ ⟨(blk_cell BK408.out 0).trans rfl, (blk_cell BK408.out 1).trans rfl, (blk_cell BK408.out 2).trans rfl, (blk_cell BK408.out 3).trans rfl, (blk_cell BK408.out 4).trans rfl, (blk_cell BK408.out 5).trans rfl, (blk_cell BK408.out 6).trans rfl, (blk_cell BK408.out 7).trans rfl, (blk_cell BK408.out 8).trans rfl, (blk_cell BK408.out 9).trans rfl, (blk_cell BK408.out 10).trans rfl, (blk_cell BK408.out 11).trans rfl, (blk_cell BK408.out 12).trans rfl, (blk_cell BK408.out 13).trans rfl, (blk_cell BK409.out 0).trans rfl, (blk_cell BK409.out 1).trans rfl, (blk_cell BK409.out 2).trans rfl, (blk_cell BK409.out 3).trans rfl, (blk_cell BK409.out 4).trans rfl, (blk_cell BK409.out 5).trans rfl, (blk_cell BK409.out 6).trans rfl, (blk_cell BK409.out 7).trans rfl, (blk_cell BK409.out 8).trans rfl, (blk_cell BK409.out 9).trans rfl, (blk_cell BK409.out 10).trans rfl, (blk_cell BK409.out 11).trans rfl, (blk_cell BK409.out 12).trans rfl, (blk_cell BK409.out 13).trans rfl⟩ (fun hHeld => ?_)
    clear hK K
    refine norm_ (a' := ?_) ?_ ?_
    rotate_left
    · show Act.put _ (some 11) _ = _
      simp only [Act.put, List.setIfInBounds_toArray, List.set_cons_zero, List.set_cons_succ, i64_w, i32_w]
      rfl
    refine pure_ (i := 5) (N := some 5) (v := ?_) (a' := ?_) #[true, true, true, true, true, true] rfl rfl (by kernel_rfl) (fun _ _ _ h => h) (Or.inl ⟨by rfl, ?_⟩) ?_ ?_
    rotate_left
    · intro w'
      go_simp
      with_reducible rfl
    rotate_left
    · simp only [Act.put, List.setIfInBounds_toArray, List.set_cons_zero, List.set_cons_succ, i64_w, i32_w]
      rfl
    refine done_ (by kernel_rfl) ?_
    try go_wp2
    have n0_ := Aside0.mk (blk_drew BK408.out)
    have n1_ := Aside0.mk (blk_drew BK409.out)
    have n2_ := Aside0.mk (below_drew1 HB.out)
    clear BK408
    clear BK409
    clear HB
    have BK408 := n0_
    have BK409 := n1_
    have HB := n2_
    clear n0_ n1_ n2_
    refine start_ (n := 6) (S := fun w' => w'.cell? ⟨gb408, 0, none⟩ = some (.int .i64 a0_0) ∧ w'.cell? ⟨gb408, 1, none⟩ = some (.int .i64 a0_1) ∧ w'.cell? ⟨gb408, 2, none⟩ = some (.int .i64 a0_2) ∧ w'.cell? ⟨gb408, 3, none⟩ = some (.int .i64 a0_3) ∧ w'.cell? ⟨gb408, 4, none⟩ = some (.bool a0_4) ∧ w'.cell? ⟨gb408, 5, none⟩ = some (.int .i64 a0_5) ∧ w'.cell? ⟨gb408, 6, none⟩ = some (.int .i64 a0_6) ∧ w'.cell? ⟨gb408, 7, none⟩ = some (.int .i64 a0_7) ∧ w'.cell? ⟨gb408, 8, none⟩ = some (.int .i64 a0_8) ∧ w'.cell? ⟨gb408, 9, none⟩ = some (.int .i64 a0_9) ∧ w'.cell? ⟨gb408, 10, none⟩ = some (.int .i64 a0_10) ∧ w'.cell? ⟨gb408, 11, none⟩ = some (.int .i64 a0_11) ∧ w'.cell? ⟨gb408, 12, none⟩ = some (.int .i64 a0_12) ∧ w'.cell? ⟨gb408, 13, none⟩ = some (.int .i64 a0_13) ∧ w'.cell? ⟨gb409, 0, none⟩ = some (.int .i64 a1_0) ∧ w'.cell? ⟨gb409, 1, none⟩ = some (.int .i64 a1_1) ∧ w'.cell? ⟨gb409, 2, none⟩ = some (.int .i64 a1_2) ∧ w'.cell? ⟨gb409, 3, none⟩ = some (.int .i64 a1_3) ∧ w'.cell? ⟨gb409, 4, none⟩ = some (.bool a1_4) ∧ w'.cell? ⟨gb409, 5, none⟩ = some (.int .i64 a1_5) ∧ w'.cell? ⟨gb409, 6, none⟩ = some (.int .i64 a1_6) ∧ w'.cell? ⟨gb409, 7, none⟩ = some (.int .i64 a1_7) ∧ w'.cell? ⟨gb409, 8, none⟩ = some (.int .i64 a1_8) ∧ w'.cell? ⟨gb409, 9, none⟩ = some (.int .i64 a1_9) ∧ w'.cell? ⟨gb409, 10, none⟩ = some (.int .i64 a1_10) ∧ w'.cell? ⟨gb409, 11, none⟩ = some (.int .i64 a1_11) ∧ w'.cell? ⟨gb409, 12, none⟩ = some (.int .i64 a1_12) ∧ w'.cell? ⟨gb409, 13, none⟩ = some (.int .i64 a1_13)) (ds := []) #[false, false, false, false, false, false] (by kernel_rfl) rfl rfl ⟨(blk_cell BK408.out 0).trans rfl, (blk_cell BK408.out 1).trans rfl, (blk_cell BK408.out 2).trans rfl, (blk_cell BK408.out 3).trans rfl, (blk_cell BK408.out 4).trans rfl, (blk_cell BK408.out 5).trans rfl, (blk_cell BK408.out 6).trans rfl, (blk_cell BK408.out 7).trans rfl, (blk_cell BK408.out 8).trans rfl, (blk_cell BK408.out 9).trans rfl, (blk_cell BK408.out 10).trans rfl, (blk_cell BK408.out 11).trans rfl, (blk_cell BK408.out 12).trans rfl, (blk_cell BK408.out 13).trans rfl, (blk_cell BK409.out 0).trans rfl, (blk_cell BK409.out 1).trans rfl, (blk_cell BK409.out 2).trans rfl, (blk_cell BK409.out 3).trans rfl, (blk_cell BK409.out 4).trans rfl, (blk_cell BK409.out 5).trans rfl, (blk_cell BK409.out 6).trans rfl, (blk_cell BK409.out 7).trans rfl, (blk_cell BK409.out 8).trans rfl, (blk_cell BK409.out 9).trans rfl, (blk_cell BK409.out 10).trans rfl, (blk_cell BK409.out 11).trans rfl, (blk_cell BK409.out 12).trans rfl, (blk_cell BK409.out 13).trans rfl⟩ (fun hHeld => ?_)
    generalize w15.drew = w16 at BK408 BK409 HB hHeld ⊢
    refine take_ (i := 0) (N := some 12) (v := ?_) (a' := ?_) #[true, false, false, false, false, false] rfl rfl (by kernel_rfl) (fun _ _ _ h => h) (Or.inl ⟨by rfl, ?_⟩) hHeld ?_ ?_
    rotate_left
    · rintro w' ⟨s0, s1, s2, s3, s4, s5, s6, s7, s8, s9, s10, s11, s12, s13, s14, s15, s16, s17, s18, s19, s20, s21, s22, s23, s24, s25, s26, s27⟩
      go_simp
      with_reducible rfl
    rotate_left
    · simp only [Act.put, List.setIfInBounds_toArray, List.set_cons_zero, List.set_cons_succ, i64_w, i32_w]
      rfl
    refine take_ (i := 2) (N := some 14) (v := ?_) (a' := ?_) #[true, false, true, false, false, false] rfl rfl (by kernel_rfl) (fun _ _ _ h => h) (Or.inl ⟨by rfl, ?_⟩) hHeld ?_ ?_
    rotate_left
    · rintro w' ⟨s0, s1, s2, s3, s4, s5, s6, s7, s8, s9, s10, s11, s12, s13, s14, s15, s16, s17, s18, s19, s20, s21, s22, s23, s24, s25, s26, s27⟩
      go_simp
      with_reducible rfl
    rotate_left
    · simp only [Act.put, List.setIfInBounds_toArray, List.set_cons_zero, List.set_cons_succ, i64_w, i32_w]
      rfl
    refine one_ (i := 1) (N := some 13) #[true, true, true, false, false, false] rfl rfl (by kernel_rfl) (by decide) (fun K hK => ?_)
    refine goes_ Try.func35 (by kernel_rfl) rfl #[.agg #[.int .i64 a0_0, .int .i64 a0_1, .int .i64 a0_2, .int .i64 a0_3, .bool a0_4, .int .i64 a0_5, .int .i64 a0_6, .int .i64 a0_7, .int .i64 a0_8, .int .i64 a0_9, .int .i64 a0_10, .int .i64 a0_11, .int .i64 a0_12, .int .i64 a0_13]] (by rfl) rfl rfl (by (try simp only [List.map_toArray, List.map_cons, List.map_nil]); first | done | rfl | (simp only [List.length_drop, List.length_take]; rfl)) ?_
    with_reducible refine (laws_toTask.calls a0_0 a0_1 a0_2 a0_3 a0_4 a0_5 a0_6 a0_7 a0_8 a0_9 a0_10 a0_11 a0_12 a0_13 t439 t440 t441 t442 t443 t444 t445 t446 t447 t448 t449 t450 t451 t452 _ A6.out).mono ?_
    rintro e w17 ⟨rfl, hb⟩
    refine ⟨_, rfl, ?_⟩
    have n0_ := Aside0.mk (blk_below (g := gb408) (o := .cells #[.int .i64 a0_0, .int .i64 a0_1, .int .i64 a0_2, .int .i64 a0_3, .bool a0_4, .int .i64 a0_5, .int .i64 a0_6, .int .i64 a0_7, .int .i64 a0_8, .int .i64 a0_9, .int .i64 a0_10, .int .i64 a0_11, .int .i64 a0_12, .int .i64 a0_13] 46 (0, 0)) (by (with_reducible repeat (first | refine blk_drewN ?_ _ | refine blk_drew ?_ | refine blk_alloc ?_ _)); exact BK408.out) hb)
    have n1_ := Aside0.mk (blk_below (g := gb409) (o := .cells #[.int .i64 a1_0, .int .i64 a1_1, .int .i64 a1_2, .int .i64 a1_3, .bool a1_4, .int .i64 a1_5, .int .i64 a1_6, .int .i64 a1_7, .int .i64 a1_8, .int .i64 a1_9, .int .i64 a1_10, .int .i64 a1_11, .int .i64 a1_12, .int .i64 a1_13] 46 (0, 0)) (by (with_reducible repeat (first | refine blk_drewN ?_ _ | refine blk_drew ?_ | refine blk_alloc ?_ _)); exact BK409.out) hb)
    have n2_ := Aside0.mk (below_step (by repeat (first | (with_reducible first | exact HB.out | apply below_alloc | apply pw_below_drewN | apply below_drew1 | refine below_set ?_ GE408.out | refine below_set ?_ GE409.out) | exact HB.out)) hb)
    clear BK408
    clear BK409
    clear HB
    have BK408 := n0_
    have BK409 := n1_
    have HB := n2_
    clear n0_ n1_ n2_
    (try clear hb)
    (try clear hb2)
    (try clear hk)
    (try clear hi)
    refine hK.out _ _ ⟨(blk_cell BK408.out 0).trans rfl, (blk_cell BK408.out 1).trans rfl, (blk_cell BK408.out 2).trans rfl, (blk_cell BK408.out 3).trans rfl, (blk_cell BK408.out 4).trans rfl, (blk_cell BK408.out 5).trans rfl, (blk_cell BK408.out 6).trans rfl, (blk_cell BK408.out 7).trans rfl, (blk_cell BK408.out 8).trans rfl, (blk_cell BK408.out 9).trans rfl, (blk_cell BK408.out 10).trans rfl, (blk_cell BK408.out 11).trans rfl, (blk_cell BK408.out 12).trans rfl, (blk_cell BK408.out 13).trans rfl, (blk_cell BK409.out 0).trans rfl, (blk_cell BK409.out 1).trans rfl, (blk_cell BK409.out 2).trans rfl, (blk_cell BK409.out 3).trans rfl, (blk_cell BK409.out 4).trans rfl, (blk_cell BK409.out 5).trans rfl, (blk_cell BK409.out 6).trans rfl, (blk_cell BK409.out 7).trans rfl, (blk_cell BK409.out 8).trans rfl, (blk_cell BK409.out 9).trans rfl, (blk_cell BK409.out 10).trans rfl, (blk_cell BK409.out 11).trans rfl, (blk_cell BK409.out 12).trans rfl, (blk_cell BK409.out 13).trans rfl⟩ (fun hHeld => ?_)
    clear hK K
    refine norm_ (a' := ?_) ?_ ?_
    rotate_left
    · show Act.put _ (some 13) _ = _
      simp only [Act.put, List.setIfInBounds_toArray, List.set_cons_zero, List.set_cons_succ, i64_w, i32_w]
      rfl
    refine one_ (i := 3) (N := some 15) #[true, true, true, true, false, false] rfl rfl (by kernel_rfl) (by decide) (fun K hK => ?_)
    refine goes_ Try.func35 (by kernel_rfl) rfl #[.agg #[.int .i64 a1_0, .int .i64 a1_1, .int .i64 a1_2, .int .i64 a1_3, .bool a1_4, .int .i64 a1_5, .int .i64 a1_6, .int .i64 a1_7, .int .i64 a1_8, .int .i64 a1_9, .int .i64 a1_10, .int .i64 a1_11, .int .i64 a1_12, .int .i64 a1_13]] (by rfl) rfl rfl (by (try simp only [List.map_toArray, List.map_cons, List.map_nil]); first | done | rfl | (simp only [List.length_drop, List.length_take]; rfl)) ?_
    with_reducible refine (laws_toTask.calls a1_0 a1_1 a1_2 a1_3 a1_4 a1_5 a1_6 a1_7 a1_8 a1_9 a1_10 a1_11 a1_12 a1_13 t453 t454 t455 t456 t457 t458 t459 t460 t461 t462 t463 t464 t465 t466 _ A7.out).mono ?_
    rintro e w18 ⟨rfl, hb⟩
    refine ⟨_, rfl, ?_⟩
    have n0_ := Aside0.mk (blk_below (g := gb408) (o := .cells #[.int .i64 a0_0, .int .i64 a0_1, .int .i64 a0_2, .int .i64 a0_3, .bool a0_4, .int .i64 a0_5, .int .i64 a0_6, .int .i64 a0_7, .int .i64 a0_8, .int .i64 a0_9, .int .i64 a0_10, .int .i64 a0_11, .int .i64 a0_12, .int .i64 a0_13] 46 (0, 0)) (by (with_reducible repeat (first | refine blk_drewN ?_ _ | refine blk_drew ?_ | refine blk_alloc ?_ _)); exact BK408.out) hb)
    have n1_ := Aside0.mk (blk_below (g := gb409) (o := .cells #[.int .i64 a1_0, .int .i64 a1_1, .int .i64 a1_2, .int .i64 a1_3, .bool a1_4, .int .i64 a1_5, .int .i64 a1_6, .int .i64 a1_7, .int .i64 a1_8, .int .i64 a1_9, .int .i64 a1_10, .int .i64 a1_11, .int .i64 a1_12, .int .i64 a1_13] 46 (0, 0)) (by (with_reducible repeat (first | refine blk_drewN ?_ _ | refine blk_drew ?_ | refine blk_alloc ?_ _)); exact BK409.out) hb)
    have n2_ := Aside0.mk (below_step (by repeat (first | (with_reducible first | exact HB.out | apply below_alloc | apply pw_below_drewN | apply below_drew1 | refine below_set ?_ GE408.out | refine below_set ?_ GE409.out) | exact HB.out)) hb)
    clear BK408
    clear BK409
    clear HB
    have BK408 := n0_
    have BK409 := n1_
    have HB := n2_
    clear n0_ n1_ n2_
    (try clear hb)
    (try clear hb2)
    (try clear hk)
    (try clear hi)
    refine hK.out _ _ ⟨(blk_cell BK408.out 0).trans rfl, (blk_cell BK408.out 1).trans rfl, (blk_cell BK408.out 2).trans rfl, (blk_cell BK408.out 3).trans rfl, (blk_cell BK408.out 4).trans rfl, (blk_cell BK408.out 5).trans rfl, (blk_cell BK408.out 6).trans rfl, (blk_cell BK408.out 7).trans rfl, (blk_cell BK408.out 8).trans rfl, (blk_cell BK408.out 9).trans rfl, (blk_cell BK408.out 10).trans rfl, (blk_cell BK408.out 11).trans rfl, (blk_cell BK408.out 12).trans rfl, (blk_cell BK408.out 13).trans rfl, (blk_cell BK409.out 0).trans rfl, (blk_cell BK409.out 1).trans rfl, (blk_cell BK409.out 2).trans rfl, (blk_cell BK409.out 3).trans rfl, (blk_cell BK409.out 4).trans rfl, (blk_cell BK409.out 5).trans rfl, (blk_cell BK409.out 6).trans rfl, (blk_cell BK409.out 7).trans rfl, (blk_cell BK409.out 8).trans rfl, (blk_cell BK409.out 9).trans rfl, (blk_cell BK409.out 10).trans rfl, (blk_cell BK409.out 11).trans rfl, (blk_cell BK409.out 12).trans rfl, (blk_cell BK409.out 13).trans rfl⟩ (fun hHeld => ?_)
    clear hK K
    refine norm_ (a' := ?_) ?_ ?_
    rotate_left
    · show Act.put _ (some 15) _ = _
      simp only [Act.put, List.setIfInBounds_toArray, List.set_cons_zero, List.set_cons_succ, i64_w, i32_w]
      rfl
    refine one_ (i := 4) (N := some 16) #[true, true, true, true, true, false] rfl rfl (by kernel_rfl) (by decide) (fun K hK => ?_)
    refine goes_ Try.func40 (by kernel_rfl) rfl #[.agg #[.int .i64 t439, .int .i64 t440, .int .i64 t441, .int .i64 t442, .bool t443, .int .i64 t444, .int .i64 t445, .int .i64 t446, .int .i64 t447, .int .i64 t448, .int .i64 t449, .int .i64 t450, .int .i64 t451, .int .i64 t452], .agg #[.int .i64 t453, .int .i64 t454, .int .i64 t455, .int .i64 t456, .bool t457, .int .i64 t458, .int .i64 t459, .int .i64 t460, .int .i64 t461, .int .i64 t462, .int .i64 t463, .int .i64 t464, .int .i64 t465, .int .i64 t466]] (by rfl) rfl rfl (by (try simp only [List.map_toArray, List.map_cons, List.map_nil]); first | done | rfl | (simp only [List.length_drop, List.length_take]; rfl)) ?_
    with_reducible refine (impl_FairBefore.calls t439 t440 t441 t442 t443 t444 t445 t446 t447 t448 t449 t450 t451 t452 t453 t454 t455 t456 t457 t458 t459 t460 t461 t462 t463 t464 t465 t466 t467 _ A8.out).mono ?_
    rintro e w19 ⟨rfl, hb⟩
    refine ⟨_, rfl, ?_⟩
    have n0_ := Aside0.mk (blk_below (g := gb408) (o := .cells #[.int .i64 a0_0, .int .i64 a0_1, .int .i64 a0_2, .int .i64 a0_3, .bool a0_4, .int .i64 a0_5, .int .i64 a0_6, .int .i64 a0_7, .int .i64 a0_8, .int .i64 a0_9, .int .i64 a0_10, .int .i64 a0_11, .int .i64 a0_12, .int .i64 a0_13] 46 (0, 0)) (by (with_reducible repeat (first | refine blk_drewN ?_ _ | refine blk_drew ?_ | refine blk_alloc ?_ _)); exact BK408.out) hb)
    have n1_ := Aside0.mk (blk_below (g := gb409) (o := .cells #[.int .i64 a1_0, .int .i64 a1_1, .int .i64 a1_2, .int .i64 a1_3, .bool a1_4, .int .i64 a1_5, .int .i64 a1_6, .int .i64 a1_7, .int .i64 a1_8, .int .i64 a1_9, .int .i64 a1_10, .int .i64 a1_11, .int .i64 a1_12, .int .i64 a1_13] 46 (0, 0)) (by (with_reducible repeat (first | refine blk_drewN ?_ _ | refine blk_drew ?_ | refine blk_alloc ?_ _)); exact BK409.out) hb)
    have n2_ := Aside0.mk (below_step (by repeat (first | (with_reducible first | exact HB.out | apply below_alloc | apply pw_below_drewN | apply below_drew1 | refine below_set ?_ GE408.out | refine below_set ?_ GE409.out) | exact HB.out)) hb)
    clear BK408
    clear BK409
    clear HB
    have BK408 := n0_
    have BK409 := n1_
    have HB := n2_
    clear n0_ n1_ n2_
    (try clear hb)
    (try clear hb2)
    (try clear hk)
    (try clear hi)
    refine hK.out _ _ ⟨(blk_cell BK408.out 0).trans rfl, (blk_cell BK408.out 1).trans rfl, (blk_cell BK408.out 2).trans rfl, (blk_cell BK408.out 3).trans rfl, (blk_cell BK408.out 4).trans rfl, (blk_cell BK408.out 5).trans rfl, (blk_cell BK408.out 6).trans rfl, (blk_cell BK408.out 7).trans rfl, (blk_cell BK408.out 8).trans rfl, (blk_cell BK408.out 9).trans rfl, (blk_cell BK408.out 10).trans rfl, (blk_cell BK408.out 11).trans rfl, (blk_cell BK408.out 12).trans rfl, (blk_cell BK408.out 13).trans rfl, (blk_cell BK409.out 0).trans rfl, (blk_cell BK409.out 1).trans rfl, (blk_cell BK409.out 2).trans rfl, (blk_cell BK409.out 3).trans rfl, (blk_cell BK409.out 4).trans rfl, (blk_cell BK409.out 5).trans rfl, (blk_cell BK409.out 6).trans rfl, (blk_cell BK409.out 7).trans rfl, (blk_cell BK409.out 8).trans rfl, (blk_cell BK409.out 9).trans rfl, (blk_cell BK409.out 10).trans rfl, (blk_cell BK409.out 11).trans rfl, (blk_cell BK409.out 12).trans rfl, (blk_cell BK409.out 13).trans rfl⟩ (fun hHeld => ?_)
    clear hK K
    refine norm_ (a' := ?_) ?_ ?_
    rotate_left
    · show Act.put _ (some 16) _ = _
      simp only [Act.put, List.setIfInBounds_toArray, List.set_cons_zero, List.set_cons_succ, i64_w, i32_w]
      rfl
    refine pure_ (i := 5) (N := some 6) (v := ?_) (a' := ?_) #[true, true, true, true, true, true] rfl rfl (by kernel_rfl) (fun _ _ _ h => h) (Or.inl ⟨by rfl, ?_⟩) ?_ ?_
    rotate_left
    · intro w'
      go_simp
      with_reducible rfl
    rotate_left
    · simp only [Act.put, List.setIfInBounds_toArray, List.set_cons_zero, List.set_cons_succ, i64_w, i32_w]
      rfl
    refine done_ (by kernel_rfl) ?_
    try go_wp2
    go_ret
    exact ⟨by first | rfl | (simp [errW_none, errW_some] <;> rfl) | (simp [*, errW_none, errW_some] <;> rfl), by repeat (first | (with_reducible first | exact HB.out | apply below_alloc | apply pw_below_drewN | apply below_drew1 | refine below_set ?_ GE408.out | refine below_set ?_ GE409.out) | exact HB.out)⟩
  · rw [if_neg c9] at H
    have c9b0 : (t467 != t438) = false := by simpa using c9
    (try (have c9b1 : decide (t467 = t438) = true := by simpa using c9))
    (try (have c9b2 : (t467 == t438) = true := by simpa using c9))
    clear c9
    obtain rfl := Option.some.inj H
    go_enter Try.func14, Try.ntmps14
    try go_wp2_with (first | ((with_reducible refine gate_dst (N := 2) rfl ?_); refine box_event ?hg (N := 2) ?hd (cs := #[.int .i64 a0_0, .int .i64 a0_1, .int .i64 a0_2, .int .i64 a0_3, .bool a0_4, .int .i64 a0_5, .int .i64 a0_6, .int .i64 a0_7, .int .i64 a0_8, .int .i64 a0_9, .int .i64 a0_10, .int .i64 a0_11, .int .i64 a0_12, .int .i64 a0_13]) (t := 46) ?hr ?_; (case hd => rfl); (case hg => rfl); (case hr => first | (go_simp; done) | (go_simp; rfl)); intro gb408 hg w20 hbox hb; have n0_ := Aside0.mk (below_step (by repeat (first | (with_reducible first | exact HB.out | apply below_alloc | apply pw_below_drewN | apply below_drew1) | exact HB.out)) hb); have n1_ := Aside0.mk (hbox); have n2_ := Aside0.mk ((by rw [hg]; exact (below_size (by repeat (first | (with_reducible first | exact HB.out | apply below_alloc | apply pw_below_drewN | apply below_drew1) | exact HB.out))) : w.heap.size ≤ gb408)); have n3_ := Aside0.mk ((by rw [hg]; exact (below_size (by repeat (first | (with_reducible first | exact HB.out | apply below_alloc | apply pw_below_drewN | apply below_drew1) | exact HB.out))) : w.heap.size ≤ gb408)); clear HB; have HB := n0_; have BK408 := n1_; have GW408 := n2_; have GE408 := n3_; clear n0_ n1_ n2_ n3_; clear hb hbox hg) | ((with_reducible refine gate_dst (N := 3) rfl ?_); refine box_event ?hg (N := 3) ?hd (cs := #[.int .i64 a1_0, .int .i64 a1_1, .int .i64 a1_2, .int .i64 a1_3, .bool a1_4, .int .i64 a1_5, .int .i64 a1_6, .int .i64 a1_7, .int .i64 a1_8, .int .i64 a1_9, .int .i64 a1_10, .int .i64 a1_11, .int .i64 a1_12, .int .i64 a1_13]) (t := 46) ?hr ?_; (case hd => rfl); (case hg => rfl); (case hr => first | (go_simp; done) | (go_simp; rfl)); intro gb409 hg w21 hbox hb; have n0_ := Aside0.mk (blk_below (g := gb408) (o := .cells #[.int .i64 a0_0, .int .i64 a0_1, .int .i64 a0_2, .int .i64 a0_3, .bool a0_4, .int .i64 a0_5, .int .i64 a0_6, .int .i64 a0_7, .int .i64 a0_8, .int .i64 a0_9, .int .i64 a0_10, .int .i64 a0_11, .int .i64 a0_12, .int .i64 a0_13] 46 (0, 0)) (by (with_reducible repeat (first | refine blk_drewN ?_ _ | refine blk_drew ?_ | refine blk_alloc ?_ _)); exact BK408.out) hb); have n1_ := Aside0.mk (below_step (by repeat (first | (with_reducible first | exact HB.out | apply below_alloc | apply pw_below_drewN | apply below_drew1 | refine below_set ?_ GE408.out) | exact HB.out)) hb); have n2_ := Aside0.mk (hbox); have n3_ := Aside0.mk ((by rw [hg]; exact (below_size (by repeat (first | (with_reducible first | exact HB.out | apply below_alloc | apply pw_below_drewN | apply below_drew1 | refine below_set ?_ GE408.out) | exact HB.out))) : w.heap.size ≤ gb409)); have n4_ := Aside0.mk ((by rw [hg]; exact (below_size (by repeat (first | (with_reducible first | exact HB.out | apply below_alloc | apply pw_below_drewN | apply below_drew1 | refine below_set ?_ GE408.out) | exact HB.out))) : w.heap.size ≤ gb409)); have n5_ := Aside0.mk ((by rw [hg]; exact Nat.ne_of_lt (blk_lt (g := gb408) (o := .cells #[.int .i64 a0_0, .int .i64 a0_1, .int .i64 a0_2, .int .i64 a0_3, .bool a0_4, .int .i64 a0_5, .int .i64 a0_6, .int .i64 a0_7, .int .i64 a0_8, .int .i64 a0_9, .int .i64 a0_10, .int .i64 a0_11, .int .i64 a0_12, .int .i64 a0_13] 46 (0, 0)) (by (with_reducible repeat (first | refine blk_drewN ?_ _ | refine blk_drew ?_ | refine blk_alloc ?_ _)); exact BK408.out)) : gb408 ≠ gb409)); have n6_ := Aside0.mk ((by rw [hg]; exact Nat.ne_of_gt (blk_lt (g := gb408) (o := .cells #[.int .i64 a0_0, .int .i64 a0_1, .int .i64 a0_2, .int .i64 a0_3, .bool a0_4, .int .i64 a0_5, .int .i64 a0_6, .int .i64 a0_7, .int .i64 a0_8, .int .i64 a0_9, .int .i64 a0_10, .int .i64 a0_11, .int .i64 a0_12, .int .i64 a0_13] 46 (0, 0)) (by (with_reducible repeat (first | refine blk_drewN ?_ _ | refine blk_drew ?_ | refine blk_alloc ?_ _)); exact BK408.out)) : gb409 ≠ gb408)); clear BK408; clear HB; have BK408 := n0_; have HB := n1_; have BK409 := n2_; have GW409 := n3_; have GE409 := n4_; have NB408_409 := n5_; have NB409_408 := n6_; clear n0_ n1_ n2_ n3_ n4_ n5_ n6_; clear hb hbox hg))
    have n0_ := Aside0.mk (blk_drew BK408.out)
    have n1_ := Aside0.mk (blk_drew BK409.out)
    have n2_ := Aside0.mk (below_drew1 HB.out)
    clear BK408
    clear BK409
    clear HB
    have BK408 := n0_
    have BK409 := n1_
    have HB := n2_
    clear n0_ n1_ n2_
    refine start_ (n := 6) (S := fun w' => w'.cell? ⟨gb408, 0, none⟩ = some (.int .i64 a0_0) ∧ w'.cell? ⟨gb408, 1, none⟩ = some (.int .i64 a0_1) ∧ w'.cell? ⟨gb408, 2, none⟩ = some (.int .i64 a0_2) ∧ w'.cell? ⟨gb408, 3, none⟩ = some (.int .i64 a0_3) ∧ w'.cell? ⟨gb408, 4, none⟩ = some (.bool a0_4) ∧ w'.cell? ⟨gb408, 5, none⟩ = some (.int .i64 a0_5) ∧ w'.cell? ⟨gb408, 6, none⟩ = some (.int .i64 a0_6) ∧ w'.cell? ⟨gb408, 7, none⟩ = some (.int .i64 a0_7) ∧ w'.cell? ⟨gb408, 8, none⟩ = some (.int .i64 a0_8) ∧ w'.cell? ⟨gb408, 9, none⟩ = some (.int .i64 a0_9) ∧ w'.cell? ⟨gb408, 10, none⟩ = some (.int .i64 a0_10) ∧ w'.cell? ⟨gb408, 11, none⟩ = some (.int .i64 a0_11) ∧ w'.cell? ⟨gb408, 12, none⟩ = some (.int .i64 a0_12) ∧ w'.cell? ⟨gb408, 13, none⟩ = some (.int .i64 a0_13) ∧ w'.cell? ⟨gb409, 0, none⟩ = some (.int .i64 a1_0) ∧ w'.cell? ⟨gb409, 1, none⟩ = some (.int .i64 a1_1) ∧ w'.cell? ⟨gb409, 2, none⟩ = some (.int .i64 a1_2) ∧ w'.cell? ⟨gb409, 3, none⟩ = some (.int .i64 a1_3) ∧ w'.cell? ⟨gb409, 4, none⟩ = some (.bool a1_4) ∧ w'.cell? ⟨gb409, 5, none⟩ = some (.int .i64 a1_5) ∧ w'.cell? ⟨gb409, 6, none⟩ = some (.int .i64 a1_6) ∧ w'.cell? ⟨gb409, 7, none⟩ = some (.int .i64 a1_7) ∧ w'.cell? ⟨gb409, 8, none⟩ = some (.int .i64 a1_8) ∧ w'.cell? ⟨gb409, 9, none⟩ = some (.int .i64 a1_9) ∧ w'.cell? ⟨gb409, 10, none⟩ = some (.int .i64 a1_10) ∧ w'.cell? ⟨gb409, 11, none⟩ = some (.int .i64 a1_11) ∧ w'.cell? ⟨gb409, 12, none⟩ = some (.int .i64 a1_12) ∧ w'.cell? ⟨gb409, 13, none⟩ = some (.int .i64 a1_13)) (ds := []) #[false, false, false, false, false, false] (by kernel_rfl) rfl rfl ⟨(blk_cell BK408.out 0).trans rfl, (blk_cell BK408.out 1).trans rfl, (blk_cell BK408.out 2).trans rfl, (blk_cell BK408.out 3).trans rfl, (blk_cell BK408.out 4).trans rfl, (blk_cell BK408.out 5).trans rfl, (blk_cell BK408.out 6).trans rfl, (blk_cell BK408.out 7).trans rfl, (blk_cell BK408.out 8).trans rfl, (blk_cell BK408.out 9).trans rfl, (blk_cell BK408.out 10).trans rfl, (blk_cell BK408.out 11).trans rfl, (blk_cell BK408.out 12).trans rfl, (blk_cell BK408.out 13).trans rfl, (blk_cell BK409.out 0).trans rfl, (blk_cell BK409.out 1).trans rfl, (blk_cell BK409.out 2).trans rfl, (blk_cell BK409.out 3).trans rfl, (blk_cell BK409.out 4).trans rfl, (blk_cell BK409.out 5).trans rfl, (blk_cell BK409.out 6).trans rfl, (blk_cell BK409.out 7).trans rfl, (blk_cell BK409.out 8).trans rfl, (blk_cell BK409.out 9).trans rfl, (blk_cell BK409.out 10).trans rfl, (blk_cell BK409.out 11).trans rfl, (blk_cell BK409.out 12).trans rfl, (blk_cell BK409.out 13).trans rfl⟩ (fun hHeld => ?_)
    generalize w21.drew = w22 at BK408 BK409 HB hHeld ⊢
    refine take_ (i := 0) (N := some 7) (v := ?_) (a' := ?_) #[true, false, false, false, false, false] rfl rfl (by kernel_rfl) (fun _ _ _ h => h) (Or.inl ⟨by rfl, ?_⟩) hHeld ?_ ?_
    rotate_left
    · rintro w' ⟨s0, s1, s2, s3, s4, s5, s6, s7, s8, s9, s10, s11, s12, s13, s14, s15, s16, s17, s18, s19, s20, s21, s22, s23, s24, s25, s26, s27⟩
      go_simp
      with_reducible rfl
    rotate_left
    · simp only [Act.put, List.setIfInBounds_toArray, List.set_cons_zero, List.set_cons_succ, i64_w, i32_w]
      rfl
    refine take_ (i := 2) (N := some 9) (v := ?_) (a' := ?_) #[true, false, true, false, false, false] rfl rfl (by kernel_rfl) (fun _ _ _ h => h) (Or.inl ⟨by rfl, ?_⟩) hHeld ?_ ?_
    rotate_left
    · rintro w' ⟨s0, s1, s2, s3, s4, s5, s6, s7, s8, s9, s10, s11, s12, s13, s14, s15, s16, s17, s18, s19, s20, s21, s22, s23, s24, s25, s26, s27⟩
      go_simp
      with_reducible rfl
    rotate_left
    · simp only [Act.put, List.setIfInBounds_toArray, List.set_cons_zero, List.set_cons_succ, i64_w, i32_w]
      rfl
    refine one_ (i := 1) (N := some 8) #[true, true, true, false, false, false] rfl rfl (by kernel_rfl) (by decide) (fun K hK => ?_)
    refine goes_ Try.func35 (by kernel_rfl) rfl #[.agg #[.int .i64 a0_0, .int .i64 a0_1, .int .i64 a0_2, .int .i64 a0_3, .bool a0_4, .int .i64 a0_5, .int .i64 a0_6, .int .i64 a0_7, .int .i64 a0_8, .int .i64 a0_9, .int .i64 a0_10, .int .i64 a0_11, .int .i64 a0_12, .int .i64 a0_13]] (by rfl) rfl rfl (by (try simp only [List.map_toArray, List.map_cons, List.map_nil]); first | done | rfl | (simp only [List.length_drop, List.length_take]; rfl)) ?_
    with_reducible refine (laws_toTask.calls a0_0 a0_1 a0_2 a0_3 a0_4 a0_5 a0_6 a0_7 a0_8 a0_9 a0_10 a0_11 a0_12 a0_13 t410 t411 t412 t413 t414 t415 t416 t417 t418 t419 t420 t421 t422 t423 _ A3.out).mono ?_
    rintro e w23 ⟨rfl, hb⟩
    refine ⟨_, rfl, ?_⟩
    have n0_ := Aside0.mk (blk_below (g := gb408) (o := .cells #[.int .i64 a0_0, .int .i64 a0_1, .int .i64 a0_2, .int .i64 a0_3, .bool a0_4, .int .i64 a0_5, .int .i64 a0_6, .int .i64 a0_7, .int .i64 a0_8, .int .i64 a0_9, .int .i64 a0_10, .int .i64 a0_11, .int .i64 a0_12, .int .i64 a0_13] 46 (0, 0)) (by (with_reducible repeat (first | refine blk_drewN ?_ _ | refine blk_drew ?_ | refine blk_alloc ?_ _)); exact BK408.out) hb)
    have n1_ := Aside0.mk (blk_below (g := gb409) (o := .cells #[.int .i64 a1_0, .int .i64 a1_1, .int .i64 a1_2, .int .i64 a1_3, .bool a1_4, .int .i64 a1_5, .int .i64 a1_6, .int .i64 a1_7, .int .i64 a1_8, .int .i64 a1_9, .int .i64 a1_10, .int .i64 a1_11, .int .i64 a1_12, .int .i64 a1_13] 46 (0, 0)) (by (with_reducible repeat (first | refine blk_drewN ?_ _ | refine blk_drew ?_ | refine blk_alloc ?_ _)); exact BK409.out) hb)
    have n2_ := Aside0.mk (below_step (by repeat (first | (with_reducible first | exact HB.out | apply below_alloc | apply pw_below_drewN | apply below_drew1 | refine below_set ?_ GE408.out | refine below_set ?_ GE409.out) | exact HB.out)) hb)
    clear BK408
    clear BK409
    clear HB
    have BK408 := n0_
    have BK409 := n1_
    have HB := n2_
    clear n0_ n1_ n2_
    (try clear hb)
    (try clear hb2)
    (try clear hk)
    (try clear hi)
    refine hK.out _ _ ⟨(blk_cell BK408.out 0).trans rfl, (blk_cell BK408.out 1).trans rfl, (blk_cell BK408.out 2).trans rfl, (blk_cell BK408.out 3).trans rfl, (blk_cell BK408.out 4).trans rfl, (blk_cell BK408.out 5).trans rfl, (blk_cell BK408.out 6).trans rfl, (blk_cell BK408.out 7).trans rfl, (blk_cell BK408.out 8).trans rfl, (blk_cell BK408.out 9).trans rfl, (blk_cell BK408.out 10).trans rfl, (blk_cell BK408.out 11).trans rfl, (blk_cell BK408.out 12).trans rfl, (blk_cell BK408.out 13).trans rfl, (blk_cell BK409.out 0).trans rfl, (blk_cell BK409.out 1).trans rfl, (blk_cell BK409.out 2).trans rfl, (blk_cell BK409.out 3).trans rfl, (blk_cell BK409.out 4).trans rfl, (blk_cell BK409.out 5).trans rfl, (blk_cell BK409.out 6).trans rfl, (blk_cell BK409.out 7).trans rfl, (blk_cell BK409.out 8).trans rfl, (blk_cell BK409.out 9).trans rfl, (blk_cell BK409.out 10).trans rfl, (blk_cell BK409.out 11).trans rfl, (blk_cell BK409.out 12).trans rfl, (blk_cell BK409.out 13).trans rfl⟩ (fun hHeld => ?_)
    clear hK K
    refine norm_ (a' := ?_) ?_ ?_
    rotate_left
    · show Act.put _ (some 8) _ = _
      simp only [Act.put, List.setIfInBounds_toArray, List.set_cons_zero, List.set_cons_succ, i64_w, i32_w]
      rfl
    refine one_ (i := 3) (N := some 10) #[true, true, true, true, false, false] rfl rfl (by kernel_rfl) (by decide) (fun K hK => ?_)
    refine goes_ Try.func35 (by kernel_rfl) rfl #[.agg #[.int .i64 a1_0, .int .i64 a1_1, .int .i64 a1_2, .int .i64 a1_3, .bool a1_4, .int .i64 a1_5, .int .i64 a1_6, .int .i64 a1_7, .int .i64 a1_8, .int .i64 a1_9, .int .i64 a1_10, .int .i64 a1_11, .int .i64 a1_12, .int .i64 a1_13]] (by rfl) rfl rfl (by (try simp only [List.map_toArray, List.map_cons, List.map_nil]); first | done | rfl | (simp only [List.length_drop, List.length_take]; rfl)) ?_
    with_reducible refine (laws_toTask.calls a1_0 a1_1 a1_2 a1_3 a1_4 a1_5 a1_6 a1_7 a1_8 a1_9 a1_10 a1_11 a1_12 a1_13 t424 t425 t426 t427 t428 t429 t430 t431 t432 t433 t434 t435 t436 t437 _ A4.out).mono ?_
    rintro e w24 ⟨rfl, hb⟩
    refine ⟨_, rfl, ?_⟩
    have n0_ := Aside0.mk (blk_below (g := gb408) (o := .cells #[.int .i64 a0_0, .int .i64 a0_1, .int .i64 a0_2, .int .i64 a0_3, .bool a0_4, .int .i64 a0_5, .int .i64 a0_6, .int .i64 a0_7, .int .i64 a0_8, .int .i64 a0_9, .int .i64 a0_10, .int .i64 a0_11, .int .i64 a0_12, .int .i64 a0_13] 46 (0, 0)) (by (with_reducible repeat (first | refine blk_drewN ?_ _ | refine blk_drew ?_ | refine blk_alloc ?_ _)); exact BK408.out) hb)
    have n1_ := Aside0.mk (blk_below (g := gb409) (o := .cells #[.int .i64 a1_0, .int .i64 a1_1, .int .i64 a1_2, .int .i64 a1_3, .bool a1_4, .int .i64 a1_5, .int .i64 a1_6, .int .i64 a1_7, .int .i64 a1_8, .int .i64 a1_9, .int .i64 a1_10, .int .i64 a1_11, .int .i64 a1_12, .int .i64 a1_13] 46 (0, 0)) (by (with_reducible repeat (first | refine blk_drewN ?_ _ | refine blk_drew ?_ | refine blk_alloc ?_ _)); exact BK409.out) hb)
    have n2_ := Aside0.mk (below_step (by repeat (first | (with_reducible first | exact HB.out | apply below_alloc | apply pw_below_drewN | apply below_drew1 | refine below_set ?_ GE408.out | refine below_set ?_ GE409.out) | exact HB.out)) hb)
    clear BK408
    clear BK409
    clear HB
    have BK408 := n0_
    have BK409 := n1_
    have HB := n2_
    clear n0_ n1_ n2_
    (try clear hb)
    (try clear hb2)
    (try clear hk)
    (try clear hi)
    refine hK.out _ _ ⟨(blk_cell BK408.out 0).trans rfl, (blk_cell BK408.out 1).trans rfl, (blk_cell BK408.out 2).trans rfl, (blk_cell BK408.out 3).trans rfl, (blk_cell BK408.out 4).trans rfl, (blk_cell BK408.out 5).trans rfl, (blk_cell BK408.out 6).trans rfl, (blk_cell BK408.out 7).trans rfl, (blk_cell BK408.out 8).trans rfl, (blk_cell BK408.out 9).trans rfl, (blk_cell BK408.out 10).trans rfl, (blk_cell BK408.out 11).trans rfl, (blk_cell BK408.out 12).trans rfl, (blk_cell BK408.out 13).trans rfl, (blk_cell BK409.out 0).trans rfl, (blk_cell BK409.out 1).trans rfl, (blk_cell BK409.out 2).trans rfl, (blk_cell BK409.out 3).trans rfl, (blk_cell BK409.out 4).trans rfl, (blk_cell BK409.out 5).trans rfl, (blk_cell BK409.out 6).trans rfl, (blk_cell BK409.out 7).trans rfl, (blk_cell BK409.out 8).trans rfl, (blk_cell BK409.out 9).trans rfl, (blk_cell BK409.out 10).trans rfl, (blk_cell BK409.out 11).trans rfl, (blk_cell BK409.out 12).trans rfl, (blk_cell BK409.out 13).trans rfl⟩ (fun hHeld => ?_)
    clear hK K
    refine norm_ (a' := ?_) ?_ ?_
    rotate_left
    · show Act.put _ (some 10) _ = _
      simp only [Act.put, List.setIfInBounds_toArray, List.set_cons_zero, List.set_cons_succ, i64_w, i32_w]
      rfl
    refine one_ (i := 4) (N := some 11) #[true, true, true, true, true, false] rfl rfl (by kernel_rfl) (by decide) (fun K hK => ?_)
    refine goes_ Try.func39 (by kernel_rfl) rfl #[.agg #[.int .i64 t410, .int .i64 t411, .int .i64 t412, .int .i64 t413, .bool t414, .int .i64 t415, .int .i64 t416, .int .i64 t417, .int .i64 t418, .int .i64 t419, .int .i64 t420, .int .i64 t421, .int .i64 t422, .int .i64 t423], .agg #[.int .i64 t424, .int .i64 t425, .int .i64 t426, .int .i64 t427, .bool t428, .int .i64 t429, .int .i64 t430, .int .i64 t431, .int .i64 t432, .int .i64 t433, .int .i64 t434, .int .i64 t435, .int .i64 t436, .int .i64 t437]] (by rfl) rfl rfl (by (try simp only [List.map_toArray, List.map_cons, List.map_nil]); first | done | rfl | (simp only [List.length_drop, List.length_take]; rfl)) ?_
    with_reducible refine (spec_FairBefore.calls t410 t411 t412 t413 t414 t415 t416 t417 t418 t419 t420 t421 t422 t423 t424 t425 t426 t427 t428 t429 t430 t431 t432 t433 t434 t435 t436 t437 t438 _ A5.out).mono ?_
    rintro e w25 ⟨rfl, hb⟩
    refine ⟨_, rfl, ?_⟩
    have n0_ := Aside0.mk (blk_below (g := gb408) (o := .cells #[.int .i64 a0_0, .int .i64 a0_1, .int .i64 a0_2, .int .i64 a0_3, .bool a0_4, .int .i64 a0_5, .int .i64 a0_6, .int .i64 a0_7, .int .i64 a0_8, .int .i64 a0_9, .int .i64 a0_10, .int .i64 a0_11, .int .i64 a0_12, .int .i64 a0_13] 46 (0, 0)) (by (with_reducible repeat (first | refine blk_drewN ?_ _ | refine blk_drew ?_ | refine blk_alloc ?_ _)); exact BK408.out) hb)
    have n1_ := Aside0.mk (blk_below (g := gb409) (o := .cells #[.int .i64 a1_0, .int .i64 a1_1, .int .i64 a1_2, .int .i64 a1_3, .bool a1_4, .int .i64 a1_5, .int .i64 a1_6, .int .i64 a1_7, .int .i64 a1_8, .int .i64 a1_9, .int .i64 a1_10, .int .i64 a1_11, .int .i64 a1_12, .int .i64 a1_13] 46 (0, 0)) (by (with_reducible repeat (first | refine blk_drewN ?_ _ | refine blk_drew ?_ | refine blk_alloc ?_ _)); exact BK409.out) hb)
    have n2_ := Aside0.mk (below_step (by repeat (first | (with_reducible first | exact HB.out | apply below_alloc | apply pw_below_drewN | apply below_drew1 | refine below_set ?_ GE408.out | refine below_set ?_ GE409.out) | exact HB.out)) hb)
    clear BK408
    clear BK409
    clear HB
    have BK408 := n0_
    have BK409 := n1_
    have HB := n2_
    clear n0_ n1_ n2_
    (try clear hb)
    (try clear hb2)
    (try clear hk)
    (try clear hi)
    refine hK.out _ _ ⟨(blk_cell BK408.out 0).trans rfl, (blk_cell BK408.out 1).trans rfl, (blk_cell BK408.out 2).trans rfl, (blk_cell BK408.out 3).trans rfl, (blk_cell BK408.out 4).trans rfl, (blk_cell BK408.out 5).trans rfl, (blk_cell BK408.out 6).trans rfl, (blk_cell BK408.out 7).trans rfl, (blk_cell BK408.out 8).trans rfl, (blk_cell BK408.out 9).trans rfl, (blk_cell BK408.out 10).trans rfl, (blk_cell BK408.out 11).trans rfl, (blk_cell BK408.out 12).trans rfl, (blk_cell BK408.out 13).trans rfl, (blk_cell BK409.out 0).trans rfl, (blk_cell BK409.out 1).trans rfl, (blk_cell BK409.out 2).trans rfl, (blk_cell BK409.out 3).trans rfl, (blk_cell BK409.out 4).trans rfl, (blk_cell BK409.out 5).trans rfl, (blk_cell BK409.out 6).trans rfl, (blk_cell BK409.out 7).trans rfl, (blk_cell BK409.out 8).trans rfl, (blk_cell BK409.out 9).trans rfl, (blk_cell BK409.out 10).trans rfl, (blk_cell BK409.out 11).trans rfl, (blk_cell BK409.out 12).trans rfl, (blk_cell BK409.out 13).trans rfl⟩ (fun hHeld => ?_)
    clear hK K
    refine norm_ (a' := ?_) ?_ ?_
    rotate_left
    · show Act.put _ (some 11) _ = _
      simp only [Act.put, List.setIfInBounds_toArray, List.set_cons_zero, List.set_cons_succ, i64_w, i32_w]
      rfl
    refine pure_ (i := 5) (N := some 5) (v := ?_) (a' := ?_) #[true, true, true, true, true, true] rfl rfl (by kernel_rfl) (fun _ _ _ h => h) (Or.inl ⟨by rfl, ?_⟩) ?_ ?_
    rotate_left
    · intro w'
      go_simp
      with_reducible rfl
    rotate_left
    · simp only [Act.put, List.setIfInBounds_toArray, List.set_cons_zero, List.set_cons_succ, i64_w, i32_w]
      rfl
    refine done_ (by kernel_rfl) ?_
    try go_wp2
    have n0_ := Aside0.mk (blk_drew BK408.out)
    have n1_ := Aside0.mk (blk_drew BK409.out)
    have n2_ := Aside0.mk (below_drew1 HB.out)
    clear BK408
    clear BK409
    clear HB
    have BK408 := n0_
    have BK409 := n1_
    have HB := n2_
    clear n0_ n1_ n2_
    refine start_ (n := 6) (S := fun w' => w'.cell? ⟨gb408, 0, none⟩ = some (.int .i64 a0_0) ∧ w'.cell? ⟨gb408, 1, none⟩ = some (.int .i64 a0_1) ∧ w'.cell? ⟨gb408, 2, none⟩ = some (.int .i64 a0_2) ∧ w'.cell? ⟨gb408, 3, none⟩ = some (.int .i64 a0_3) ∧ w'.cell? ⟨gb408, 4, none⟩ = some (.bool a0_4) ∧ w'.cell? ⟨gb408, 5, none⟩ = some (.int .i64 a0_5) ∧ w'.cell? ⟨gb408, 6, none⟩ = some (.int .i64 a0_6) ∧ w'.cell? ⟨gb408, 7, none⟩ = some (.int .i64 a0_7) ∧ w'.cell? ⟨gb408, 8, none⟩ = some (.int .i64 a0_8) ∧ w'.cell? ⟨gb408, 9, none⟩ = some (.int .i64 a0_9) ∧ w'.cell? ⟨gb408, 10, none⟩ = some (.int .i64 a0_10) ∧ w'.cell? ⟨gb408, 11, none⟩ = some (.int .i64 a0_11) ∧ w'.cell? ⟨gb408, 12, none⟩ = some (.int .i64 a0_12) ∧ w'.cell? ⟨gb408, 13, none⟩ = some (.int .i64 a0_13) ∧ w'.cell? ⟨gb409, 0, none⟩ = some (.int .i64 a1_0) ∧ w'.cell? ⟨gb409, 1, none⟩ = some (.int .i64 a1_1) ∧ w'.cell? ⟨gb409, 2, none⟩ = some (.int .i64 a1_2) ∧ w'.cell? ⟨gb409, 3, none⟩ = some (.int .i64 a1_3) ∧ w'.cell? ⟨gb409, 4, none⟩ = some (.bool a1_4) ∧ w'.cell? ⟨gb409, 5, none⟩ = some (.int .i64 a1_5) ∧ w'.cell? ⟨gb409, 6, none⟩ = some (.int .i64 a1_6) ∧ w'.cell? ⟨gb409, 7, none⟩ = some (.int .i64 a1_7) ∧ w'.cell? ⟨gb409, 8, none⟩ = some (.int .i64 a1_8) ∧ w'.cell? ⟨gb409, 9, none⟩ = some (.int .i64 a1_9) ∧ w'.cell? ⟨gb409, 10, none⟩ = some (.int .i64 a1_10) ∧ w'.cell? ⟨gb409, 11, none⟩ = some (.int .i64 a1_11) ∧ w'.cell? ⟨gb409, 12, none⟩ = some (.int .i64 a1_12) ∧ w'.cell? ⟨gb409, 13, none⟩ = some (.int .i64 a1_13)) (ds := []) #[false, false, false, false, false, false] (by kernel_rfl) rfl rfl ⟨(blk_cell BK408.out 0).trans rfl, (blk_cell BK408.out 1).trans rfl, (blk_cell BK408.out 2).trans rfl, (blk_cell BK408.out 3).trans rfl, (blk_cell BK408.out 4).trans rfl, (blk_cell BK408.out 5).trans rfl, (blk_cell BK408.out 6).trans rfl, (blk_cell BK408.out 7).trans rfl, (blk_cell BK408.out 8).trans rfl, (blk_cell BK408.out 9).trans rfl, (blk_cell BK408.out 10).trans rfl, (blk_cell BK408.out 11).trans rfl, (blk_cell BK408.out 12).trans rfl, (blk_cell BK408.out 13).trans rfl, (blk_cell BK409.out 0).trans rfl, (blk_cell BK409.out 1).trans rfl, (blk_cell BK409.out 2).trans rfl, (blk_cell BK409.out 3).trans rfl, (blk_cell BK409.out 4).trans rfl, (blk_cell BK409.out 5).trans rfl, (blk_cell BK409.out 6).trans rfl, (blk_cell BK409.out 7).trans rfl, (blk_cell BK409.out 8).trans rfl, (blk_cell BK409.out 9).trans rfl, (blk_cell BK409.out 10).trans rfl, (blk_cell BK409.out 11).trans rfl, (blk_cell BK409.out 12).trans rfl, (blk_cell BK409.out 13).trans rfl⟩ (fun hHeld => ?_)
    generalize w25.drew = w26 at BK408 BK409 HB hHeld ⊢
    refine take_ (i := 0) (N := some 12) (v := ?_) (a' := ?_) #[true, false, false, false, false, false] rfl rfl (by kernel_rfl) (fun _ _ _ h => h) (Or.inl ⟨by rfl, ?_⟩) hHeld ?_ ?_
    rotate_left
    · rintro w' ⟨s0, s1, s2, s3, s4, s5, s6, s7, s8, s9, s10, s11, s12, s13, s14, s15, s16, s17, s18, s19, s20, s21, s22, s23, s24, s25, s26, s27⟩
      go_simp
      with_reducible rfl
    rotate_left
    · simp only [Act.put, List.setIfInBounds_toArray, List.set_cons_zero, List.set_cons_succ, i64_w, i32_w]
      rfl
    refine take_ (i := 2) (N := some 14) (v := ?_) (a' := ?_) #[true, false, true, false, false, false] rfl rfl (by kernel_rfl) (fun _ _ _ h => h) (Or.inl ⟨by rfl, ?_⟩) hHeld ?_ ?_
    rotate_left
    · rintro w' ⟨s0, s1, s2, s3, s4, s5, s6, s7, s8, s9, s10, s11, s12, s13, s14, s15, s16, s17, s18, s19, s20, s21, s22, s23, s24, s25, s26, s27⟩
      go_simp
      with_reducible rfl
    rotate_left
    · simp only [Act.put, List.setIfInBounds_toArray, List.set_cons_zero, List.set_cons_succ, i64_w, i32_w]
      rfl
    refine one_ (i := 1) (N := some 13) #[true, true, true, false, false, false] rfl rfl (by kernel_rfl) (by decide) (fun K hK => ?_)
    refine goes_ Try.func35 (by kernel_rfl) rfl #[.agg #[.int .i64 a0_0, .int .i64 a0_1, .int .i64 a0_2, .int .i64 a0_3, .bool a0_4, .int .i64 a0_5, .int .i64 a0_6, .int .i64 a0_7, .int .i64 a0_8, .int .i64 a0_9, .int .i64 a0_10, .int .i64 a0_11, .int .i64 a0_12, .int .i64 a0_13]] (by rfl) rfl rfl (by (try simp only [List.map_toArray, List.map_cons, List.map_nil]); first | done | rfl | (simp only [List.length_drop, List.length_take]; rfl)) ?_
    with_reducible refine (laws_toTask.calls a0_0 a0_1 a0_2 a0_3 a0_4 a0_5 a0_6 a0_7 a0_8 a0_9 a0_10 a0_11 a0_12 a0_13 t439 t440 t441 t442 t443 t444 t445 t446 t447 t448 t449 t450 t451 t452 _ A6.out).mono ?_
    rintro e w27 ⟨rfl, hb⟩
    refine ⟨_, rfl, ?_⟩
    have n0_ := Aside0.mk (blk_below (g := gb408) (o := .cells #[.int .i64 a0_0, .int .i64 a0_1, .int .i64 a0_2, .int .i64 a0_3, .bool a0_4, .int .i64 a0_5, .int .i64 a0_6, .int .i64 a0_7, .int .i64 a0_8, .int .i64 a0_9, .int .i64 a0_10, .int .i64 a0_11, .int .i64 a0_12, .int .i64 a0_13] 46 (0, 0)) (by (with_reducible repeat (first | refine blk_drewN ?_ _ | refine blk_drew ?_ | refine blk_alloc ?_ _)); exact BK408.out) hb)
    have n1_ := Aside0.mk (blk_below (g := gb409) (o := .cells #[.int .i64 a1_0, .int .i64 a1_1, .int .i64 a1_2, .int .i64 a1_3, .bool a1_4, .int .i64 a1_5, .int .i64 a1_6, .int .i64 a1_7, .int .i64 a1_8, .int .i64 a1_9, .int .i64 a1_10, .int .i64 a1_11, .int .i64 a1_12, .int .i64 a1_13] 46 (0, 0)) (by (with_reducible repeat (first | refine blk_drewN ?_ _ | refine blk_drew ?_ | refine blk_alloc ?_ _)); exact BK409.out) hb)
    have n2_ := Aside0.mk (below_step (by repeat (first | (with_reducible first | exact HB.out | apply below_alloc | apply pw_below_drewN | apply below_drew1 | refine below_set ?_ GE408.out | refine below_set ?_ GE409.out) | exact HB.out)) hb)
    clear BK408
    clear BK409
    clear HB
    have BK408 := n0_
    have BK409 := n1_
    have HB := n2_
    clear n0_ n1_ n2_
    (try clear hb)
    (try clear hb2)
    (try clear hk)
    (try clear hi)
    refine hK.out _ _ ⟨(blk_cell BK408.out 0).trans rfl, (blk_cell BK408.out 1).trans rfl, (blk_cell BK408.out 2).trans rfl, (blk_cell BK408.out 3).trans rfl, (blk_cell BK408.out 4).trans rfl, (blk_cell BK408.out 5).trans rfl, (blk_cell BK408.out 6).trans rfl, (blk_cell BK408.out 7).trans rfl, (blk_cell BK408.out 8).trans rfl, (blk_cell BK408.out 9).trans rfl, (blk_cell BK408.out 10).trans rfl, (blk_cell BK408.out 11).trans rfl, (blk_cell BK408.out 12).trans rfl, (blk_cell BK408.out 13).trans rfl, (blk_cell BK409.out 0).trans rfl, (blk_cell BK409.out 1).trans rfl, (blk_cell BK409.out 2).trans rfl, (blk_cell BK409.out 3).trans rfl, (blk_cell BK409.out 4).trans rfl, (blk_cell BK409.out 5).trans rfl, (blk_cell BK409.out 6).trans rfl, (blk_cell BK409.out 7).trans rfl, (blk_cell BK409.out 8).trans rfl, (blk_cell BK409.out 9).trans rfl, (blk_cell BK409.out 10).trans rfl, (blk_cell BK409.out 11).trans rfl, (blk_cell BK409.out 12).trans rfl, (blk_cell BK409.out 13).trans rfl⟩ (fun hHeld => ?_)
    clear hK K
    refine norm_ (a' := ?_) ?_ ?_
    rotate_left
    · show Act.put _ (some 13) _ = _
      simp only [Act.put, List.setIfInBounds_toArray, List.set_cons_zero, List.set_cons_succ, i64_w, i32_w]
      rfl
    refine one_ (i := 3) (N := some 15) #[true, true, true, true, false, false] rfl rfl (by kernel_rfl) (by decide) (fun K hK => ?_)
    refine goes_ Try.func35 (by kernel_rfl) rfl #[.agg #[.int .i64 a1_0, .int .i64 a1_1, .int .i64 a1_2, .int .i64 a1_3, .bool a1_4, .int .i64 a1_5, .int .i64 a1_6, .int .i64 a1_7, .int .i64 a1_8, .int .i64 a1_9, .int .i64 a1_10, .int .i64 a1_11, .int .i64 a1_12, .int .i64 a1_13]] (by rfl) rfl rfl (by (try simp only [List.map_toArray, List.map_cons, List.map_nil]); first | done | rfl | (simp only [List.length_drop, List.length_take]; rfl)) ?_
    with_reducible refine (laws_toTask.calls a1_0 a1_1 a1_2 a1_3 a1_4 a1_5 a1_6 a1_7 a1_8 a1_9 a1_10 a1_11 a1_12 a1_13 t453 t454 t455 t456 t457 t458 t459 t460 t461 t462 t463 t464 t465 t466 _ A7.out).mono ?_
    rintro e w28 ⟨rfl, hb⟩
    refine ⟨_, rfl, ?_⟩
    have n0_ := Aside0.mk (blk_below (g := gb408) (o := .cells #[.int .i64 a0_0, .int .i64 a0_1, .int .i64 a0_2, .int .i64 a0_3, .bool a0_4, .int .i64 a0_5, .int .i64 a0_6, .int .i64 a0_7, .int .i64 a0_8, .int .i64 a0_9, .int .i64 a0_10, .int .i64 a0_11, .int .i64 a0_12, .int .i64 a0_13] 46 (0, 0)) (by (with_reducible repeat (first | refine blk_drewN ?_ _ | refine blk_drew ?_ | refine blk_alloc ?_ _)); exact BK408.out) hb)
    have n1_ := Aside0.mk (blk_below (g := gb409) (o := .cells #[.int .i64 a1_0, .int .i64 a1_1, .int .i64 a1_2, .int .i64 a1_3, .bool a1_4, .int .i64 a1_5, .int .i64 a1_6, .int .i64 a1_7, .int .i64 a1_8, .int .i64 a1_9, .int .i64 a1_10, .int .i64 a1_11, .int .i64 a1_12, .int .i64 a1_13] 46 (0, 0)) (by (with_reducible repeat (first | refine blk_drewN ?_ _ | refine blk_drew ?_ | refine blk_alloc ?_ _)); exact BK409.out) hb)
    have n2_ := Aside0.mk (below_step (by repeat (first | (with_reducible first | exact HB.out | apply below_alloc | apply pw_below_drewN | apply below_drew1 | refine below_set ?_ GE408.out | refine below_set ?_ GE409.out) | exact HB.out)) hb)
    clear BK408
    clear BK409
    clear HB
    have BK408 := n0_
    have BK409 := n1_
    have HB := n2_
    clear n0_ n1_ n2_
    (try clear hb)
    (try clear hb2)
    (try clear hk)
    (try clear hi)
    refine hK.out _ _ ⟨(blk_cell BK408.out 0).trans rfl, (blk_cell BK408.out 1).trans rfl, (blk_cell BK408.out 2).trans rfl, (blk_cell BK408.out 3).trans rfl, (blk_cell BK408.out 4).trans rfl, (blk_cell BK408.out 5).trans rfl, (blk_cell BK408.out 6).trans rfl, (blk_cell BK408.out 7).trans rfl, (blk_cell BK408.out 8).trans rfl, (blk_cell BK408.out 9).trans rfl, (blk_cell BK408.out 10).trans rfl, (blk_cell BK408.out 11).trans rfl, (blk_cell BK408.out 12).trans rfl, (blk_cell BK408.out 13).trans rfl, (blk_cell BK409.out 0).trans rfl, (blk_cell BK409.out 1).trans rfl, (blk_cell BK409.out 2).trans rfl, (blk_cell BK409.out 3).trans rfl, (blk_cell BK409.out 4).trans rfl, (blk_cell BK409.out 5).trans rfl, (blk_cell BK409.out 6).trans rfl, (blk_cell BK409.out 7).trans rfl, (blk_cell BK409.out 8).trans rfl, (blk_cell BK409.out 9).trans rfl, (blk_cell BK409.out 10).trans rfl, (blk_cell BK409.out 11).trans rfl, (blk_cell BK409.out 12).trans rfl, (blk_cell BK409.out 13).trans rfl⟩ (fun hHeld => ?_)
    clear hK K
    refine norm_ (a' := ?_) ?_ ?_
    rotate_left
    · show Act.put _ (some 15) _ = _
      simp only [Act.put, List.setIfInBounds_toArray, List.set_cons_zero, List.set_cons_succ, i64_w, i32_w]
      rfl
    refine one_ (i := 4) (N := some 16) #[true, true, true, true, true, false] rfl rfl (by kernel_rfl) (by decide) (fun K hK => ?_)
    refine goes_ Try.func40 (by kernel_rfl) rfl #[.agg #[.int .i64 t439, .int .i64 t440, .int .i64 t441, .int .i64 t442, .bool t443, .int .i64 t444, .int .i64 t445, .int .i64 t446, .int .i64 t447, .int .i64 t448, .int .i64 t449, .int .i64 t450, .int .i64 t451, .int .i64 t452], .agg #[.int .i64 t453, .int .i64 t454, .int .i64 t455, .int .i64 t456, .bool t457, .int .i64 t458, .int .i64 t459, .int .i64 t460, .int .i64 t461, .int .i64 t462, .int .i64 t463, .int .i64 t464, .int .i64 t465, .int .i64 t466]] (by rfl) rfl rfl (by (try simp only [List.map_toArray, List.map_cons, List.map_nil]); first | done | rfl | (simp only [List.length_drop, List.length_take]; rfl)) ?_
    with_reducible refine (impl_FairBefore.calls t439 t440 t441 t442 t443 t444 t445 t446 t447 t448 t449 t450 t451 t452 t453 t454 t455 t456 t457 t458 t459 t460 t461 t462 t463 t464 t465 t466 t467 _ A8.out).mono ?_
    rintro e w29 ⟨rfl, hb⟩
    refine ⟨_, rfl, ?_⟩
    have n0_ := Aside0.mk (blk_below (g := gb408) (o := .cells #[.int .i64 a0_0, .int .i64 a0_1, .int .i64 a0_2, .int .i64 a0_3, .bool a0_4, .int .i64 a0_5, .int .i64 a0_6, .int .i64 a0_7, .int .i64 a0_8, .int .i64 a0_9, .int .i64 a0_10, .int .i64 a0_11, .int .i64 a0_12, .int .i64 a0_13] 46 (0, 0)) (by (with_reducible repeat (first | refine blk_drewN ?_ _ | refine blk_drew ?_ | refine blk_alloc ?_ _)); exact BK408.out) hb)
    have n1_ := Aside0.mk (blk_below (g := gb409) (o := .cells #[.int .i64 a1_0, .int .i64 a1_1, .int .i64 a1_2, .int .i64 a1_3, .bool a1_4, .int .i64 a1_5, .int .i64 a1_6, .int .i64 a1_7, .int .i64 a1_8, .int .i64 a1_9, .int .i64 a1_10, .int .i64 a1_11, .int .i64 a1_12, .int .i64 a1_13] 46 (0, 0)) (by (with_reducible repeat (first | refine blk_drewN ?_ _ | refine blk_drew ?_ | refine blk_alloc ?_ _)); exact BK409.out) hb)
    have n2_ := Aside0.mk (below_step (by repeat (first | (with_reducible first | exact HB.out | apply below_alloc | apply pw_below_drewN | apply below_drew1 | refine below_set ?_ GE408.out | refine below_set ?_ GE409.out) | exact HB.out)) hb)
    clear BK408
    clear BK409
    clear HB
    have BK408 := n0_
    have BK409 := n1_
    have HB := n2_
    clear n0_ n1_ n2_
    (try clear hb)
    (try clear hb2)
    (try clear hk)
    (try clear hi)
    refine hK.out _ _ ⟨(blk_cell BK408.out 0).trans rfl, (blk_cell BK408.out 1).trans rfl, (blk_cell BK408.out 2).trans rfl, (blk_cell BK408.out 3).trans rfl, (blk_cell BK408.out 4).trans rfl, (blk_cell BK408.out 5).trans rfl, (blk_cell BK408.out 6).trans rfl, (blk_cell BK408.out 7).trans rfl, (blk_cell BK408.out 8).trans rfl, (blk_cell BK408.out 9).trans rfl, (blk_cell BK408.out 10).trans rfl, (blk_cell BK408.out 11).trans rfl, (blk_cell BK408.out 12).trans rfl, (blk_cell BK408.out 13).trans rfl, (blk_cell BK409.out 0).trans rfl, (blk_cell BK409.out 1).trans rfl, (blk_cell BK409.out 2).trans rfl, (blk_cell BK409.out 3).trans rfl, (blk_cell BK409.out 4).trans rfl, (blk_cell BK409.out 5).trans rfl, (blk_cell BK409.out 6).trans rfl, (blk_cell BK409.out 7).trans rfl, (blk_cell BK409.out 8).trans rfl, (blk_cell BK409.out 9).trans rfl, (blk_cell BK409.out 10).trans rfl, (blk_cell BK409.out 11).trans rfl, (blk_cell BK409.out 12).trans rfl, (blk_cell BK409.out 13).trans rfl⟩ (fun hHeld => ?_)
    clear hK K
    refine norm_ (a' := ?_) ?_ ?_
    rotate_left
    · show Act.put _ (some 16) _ = _
      simp only [Act.put, List.setIfInBounds_toArray, List.set_cons_zero, List.set_cons_succ, i64_w, i32_w]
      rfl
    refine pure_ (i := 5) (N := some 6) (v := ?_) (a' := ?_) #[true, true, true, true, true, true] rfl rfl (by kernel_rfl) (fun _ _ _ h => h) (Or.inl ⟨by rfl, ?_⟩) ?_ ?_
    rotate_left
    · intro w'
      go_simp
      with_reducible rfl
    rotate_left
    · simp only [Act.put, List.setIfInBounds_toArray, List.set_cons_zero, List.set_cons_succ, i64_w, i32_w]
      rfl
    refine done_ (by kernel_rfl) ?_
    try go_wp2
    go_ret
    exact ⟨by first | rfl | (simp [errW_none, errW_some] <;> rfl) | (simp [*, errW_none, errW_some] <;> rfl), by repeat (first | (with_reducible first | exact HB.out | apply below_alloc | apply pw_below_drewN | apply below_drew1 | refine below_set ?_ GE408.out | refine below_set ?_ GE409.out) | exact HB.out)⟩

/-- THE ONE PURE STATEMENT of laws_FnExactFairBefore. -/
def laws_FnExactFairBefore.Pure : Prop := ∀ (a0_0 : Int) (a0_1 : Int) (a0_2 : Int) (a0_3 : Int) (a0_4 : Bool) (a0_5 : Int) (a0_6 : Int) (a0_7 : Int) (a0_8 : Int) (a0_9 : Int) (a0_10 : Int) (a0_11 : Int) (a0_12 : Int) (a0_13 : Int) (a1_0 : Int) (a1_1 : Int) (a1_2 : Int) (a1_3 : Int) (a1_4 : Bool) (a1_5 : Int) (a1_6 : Int) (a1_7 : Int) (a1_8 : Int) (a1_9 : Int) (a1_10 : Int) (a1_11 : Int) (a1_12 : Int) (a1_13 : Int), ok46 (⟨a0_0, a0_1, a0_2, a0_3, a0_4, a0_5, a0_6, a0_7, a0_8, a0_9, a0_10, a0_11, a0_12, a0_13⟩ : S46) → ok46 (⟨a1_0, a1_1, a1_2, a1_3, a1_4, a1_5, a1_6, a1_7, a1_8, a1_9, a1_10, a1_11, a1_12, a1_13⟩ : S46) → laws_FnExactFairBefore.f a0_0 a0_1 a0_2 a0_3 a0_4 a0_5 a0_6 a0_7 a0_8 a0_9 a0_10 a0_11 a0_12 a0_13 a1_0 a1_1 a1_2 a1_3 a1_4 a1_5 a1_6 a1_7 a1_8 a1_9 a1_10 a1_11 a1_12 a1_13 = some true
theorem laws_FnExactFairBefore.walk (P : laws_FnExactFairBefore.Pure) (a0_0 : Int) (a0_1 : Int) (a0_2 : Int) (a0_3 : Int) (a0_4 : Bool) (a0_5 : Int) (a0_6 : Int) (a0_7 : Int) (a0_8 : Int) (a0_9 : Int) (a0_10 : Int) (a0_11 : Int) (a0_12 : Int) (a0_13 : Int) (a1_0 : Int) (a1_1 : Int) (a1_2 : Int) (a1_3 : Int) (a1_4 : Bool) (a1_5 : Int) (a1_6 : Int) (a1_7 : Int) (a1_8 : Int) (a1_9 : Int) (a1_10 : Int) (a1_11 : Int) (a1_12 : Int) (a1_13 : Int) (w : World) (w0 : ok46 (⟨a0_0, a0_1, a0_2, a0_3, a0_4, a0_5, a0_6, a0_7, a0_8, a0_9, a0_10, a0_11, a0_12, a0_13⟩ : S46)) (w1 : ok46 (⟨a1_0, a1_1, a1_2, a1_3, a1_4, a1_5, a1_6, a1_7, a1_8, a1_9, a1_10, a1_11, a1_12, a1_13⟩ : S46)) :
    Calls Try.prog 14 #[.agg #[.int .i64 a0_0, .int .i64 a0_1, .int .i64 a0_2, .int .i64 a0_3, .bool a0_4, .int .i64 a0_5, .int .i64 a0_6, .int .i64 a0_7, .int .i64 a0_8, .int .i64 a0_9, .int .i64 a0_10, .int .i64 a0_11, .int .i64 a0_12, .int .i64 a0_13], .agg #[.int .i64 a1_0, .int .i64 a1_1, .int .i64 a1_2, .int .i64 a1_3, .bool a1_4, .int .i64 a1_5, .int .i64 a1_6, .int .i64 a1_7, .int .i64 a1_8, .int .i64 a1_9, .int .i64 a1_10, .int .i64 a1_11, .int .i64 a1_12, .int .i64 a1_13]] w fun e w' => e = .returned (.bool true) ∧ Below w.heap.size w w' := by
  have h := P a0_0 a0_1 a0_2 a0_3 a0_4 a0_5 a0_6 a0_7 a0_8 a0_9 a0_10 a0_11 a0_12 a0_13 a1_0 a1_1 a1_2 a1_3 a1_4 a1_5 a1_6 a1_7 a1_8 a1_9 a1_10 a1_11 a1_12 a1_13 w0 w1
  refine (laws_FnExactFairBefore.calls a0_0 a0_1 a0_2 a0_3 a0_4 a0_5 a0_6 a0_7 a0_8 a0_9 a0_10 a0_11 a0_12 a0_13 a1_0 a1_1 a1_2 a1_3 a1_4 a1_5 a1_6 a1_7 a1_8 a1_9 a1_10 a1_11 a1_12 a1_13 true w  h).mono ?_
  rintro e w' ⟨rfl, hd⟩
  exact ⟨rfl, hd⟩

end Go.Proofs.Ytbcpjbgcmkifiaa.Print
