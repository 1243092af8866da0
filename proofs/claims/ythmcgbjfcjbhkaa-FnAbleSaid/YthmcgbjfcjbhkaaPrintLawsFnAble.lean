/- Go functions as plain functions, and that the Go code answers as these. Printed by wip/patch.py. -/
import Derived.Test.YthmcgbjfcjbhkaaPrint0
import Derived.Test.YthmcgbjfcjbhkaaPrintImplExecutor
import Derived.Test.YthmcgbjfcjbhkaaPrintImplLocksOk
import Derived.Test.YthmcgbjfcjbhkaaPrintImplWaitAt
import Derived.Test.YthmcgbjfcjbhkaaPrintSlicesIndexIntInt
import Derived.Test.YthmcgbjfcjbhkaaPrintSpecL8Can
import Derived.Test.YthmcgbjfcjbhkaaPrintSpecL8DrawBoth
namespace Go.Proofs.Ythmcgbjfcjbhkaa.Print
open Go.RowKit Go.Proofs.Ythmcgbjfcjbhkaa.Base Go.Proofs.YthmcgbjfcjbhkaaW.PrintWords Go.Proofs.YthmcgbjfcjbhkaaW.PrintLast Go.Proofs.YthmcgbjfcjbhkaaW.PrintMore
attribute [local go_sem] max2_int min2_int max_two min_two max_three min_three max_four min_four
set_option linter.all false

/-! ### laws_FnAble: function 3 -/
def laws_FnAble.j0 : Nat → List (S32) → List (S41) → Int → Bool → Bool → Int → Bool → Option (Bool)
  | 0, _, _, _, _, _, _, _ => none
  | k + 1, x3, x4, x5, x6, x7, x8, x52 => if x52 = true then (some false) else (if x7 = true then ((impl_TaskAt.f x3 x5).bind fun t115 => ((impl_TaskAt.f x3 x8).bind fun t116 => (if t115 < 0 then (some false) else (if t116 < 0 then (some false) else (if 0 ≤ t115 then (if t115 < (x3.length : Int) then (if ((rd_T32 x3 t115).f3) = 1 then (if 0 ≤ t116 then (if t116 < (x3.length : Int) then (if ((rd_T32 x3 t116).f3) = 1 then ((impl_WaitAt.f x4 x8).bind fun t119 => (if t119 ≥ 0 then (some false) else (if ((rd_T32 x3 t115).f1) = 1 then (if (x6 == (decide (((rd_T32 x3 t115).f7) > 0))) = true then ((impl_WaitAt.f x4 x5).bind fun t122 => (if t122 ≥ 0 then (some true) else (some (x8 == x5)))) else (some false)) else (if (x6 == true) = true then ((impl_WaitAt.f x4 x5).bind fun t123 => (if t123 ≥ 0 then (some true) else (some (x8 == x5)))) else (some false))))) else (some false)) else (none)) else (none)) else (some false)) else (none)) else (none)))))) else (some (!x6)))
def laws_FnAble.f (k : Nat) (l0 : List Int) : Option (Bool) := (laws_big.f l0).bind fun t101 => (if t101 = true then (some true) else ((spec_DrawCanTurn.f k l0).bind fun bt102 => ((impl_CanTurn.f k bt102.1 bt102.2.1 bt102.2.2).bind fun t109 => ((impl_Able.f k bt102.1 bt102.2.1 bt102.2.2).bind fun t110 => ((impl_Executor.f k bt102.1 bt102.2.1 bt102.2.2).bind fun t111 => ((spec_CanTurn.f k bt102.1 bt102.2.1 bt102.2.2).bind fun t112 => (if (t109 != t112) = true then (laws_FnAble.j0 k bt102.1 bt102.2.1 bt102.2.2 t109 t110 t111 true) else ((spec_Able.f k bt102.1 bt102.2.1 bt102.2.2).bind fun t113 => (if (t110 != t113) = true then (laws_FnAble.j0 k bt102.1 bt102.2.1 bt102.2.2 t109 t110 t111 true) else ((spec_Executor.f k bt102.1 bt102.2.1 bt102.2.2).bind fun t114 => (laws_FnAble.j0 k bt102.1 bt102.2.1 bt102.2.2 t109 t110 t111 (t111 != t114))))))))))))
theorem laws_FnAble.mono_l : ∀ k, (∀ y0 y1 y2 y3 y4 y5 y6, LeO (laws_FnAble.j0 k y0 y1 y2 y3 y4 y5 y6) (laws_FnAble.j0 (k + 1) y0 y1 y2 y3 y4 y5 y6))
  | 0 => fun _ _ _ _ _ _ _ r h => by simp [laws_FnAble.j0] at h
  | k + 1 => by
    have ih0 := laws_FnAble.mono_l k
    intro y0 y1 y2 y3 y4 y5 y6
    unfold laws_FnAble.j0
    repeat' first
    | (with_reducible exact ih0 _ _ _ _ _ _ _)
    | (with_reducible exact impl_Able.mono _ _ _ _)
    | (with_reducible exact impl_CanTurn.mono _ _ _ _)
    | (with_reducible exact impl_Executor.mono _ _ _ _)
    | (with_reducible exact spec_Able.mono _ _ _ _)
    | (with_reducible exact spec_CanTurn.mono _ _ _ _)
    | (with_reducible exact spec_DrawCanTurn.mono _ _)
    | (with_reducible exact spec_Executor.mono _ _ _ _)
    | (with_reducible exact LeO.refl _)
    | (with_reducible exact LeO.none _)
    | (with_reducible refine LeO.ite ?_ ?_)
    | (with_reducible refine LeO.bind ?_ (fun _ => ?_))
theorem laws_FnAble.mono : ∀ a0 k, LeO (laws_FnAble.f k a0) (laws_FnAble.f (k + 1) a0) := by
  intro a0 k
  have ih0 := laws_FnAble.mono_l k
  unfold laws_FnAble.f
  repeat' first
      | (with_reducible exact ih0 _ _ _ _ _ _ _)
      | (with_reducible exact impl_Able.mono _ _ _ _)
      | (with_reducible exact impl_CanTurn.mono _ _ _ _)
      | (with_reducible exact impl_Executor.mono _ _ _ _)
      | (with_reducible exact spec_Able.mono _ _ _ _)
      | (with_reducible exact spec_CanTurn.mono _ _ _ _)
      | (with_reducible exact spec_DrawCanTurn.mono _ _)
      | (with_reducible exact spec_Executor.mono _ _ _ _)
      | (with_reducible exact LeO.refl _)
      | (with_reducible exact LeO.none _)
      | (with_reducible refine LeO.ite ?_ ?_)
      | (with_reducible refine LeO.bind ?_ (fun _ => ?_))
set_option maxHeartbeats 8000000 in
set_option maxRecDepth 100000 in
theorem laws_FnAble.calls (k : Nat) (A0 : Option Addr) (c0 : Nat) (l0 : List Int) (r : Bool) (w : World) (hr0 : Kd.C (Kd.int .u8) w A0 l0.length l0) (hc0 : l0.length ≤ c0) (hrt : r = true) (h : laws_FnAble.f k l0 = some r) :
    Calls Try.prog 3 #[.slice A0 l0.length c0] w fun e w' => e = .returned (.bool r) ∧ Below w.heap.size w w' := by
  have HR0 := Aside0.mk hr0
  have HC0 := Aside0.mk hc0
  clear hr0 hc0
  have HB := aM (Below.refl w.heap.size w)
  have HRT := Aside0.mk hrt
  clear hrt
  have H : ((laws_big.f l0).bind fun t101 => (if t101 = true then (some true) else ((spec_DrawCanTurn.f k l0).bind fun bt102 => ((impl_CanTurn.f k bt102.1 bt102.2.1 bt102.2.2).bind fun t109 => ((impl_Able.f k bt102.1 bt102.2.1 bt102.2.2).bind fun t110 => ((impl_Executor.f k bt102.1 bt102.2.1 bt102.2.2).bind fun t111 => ((spec_CanTurn.f k bt102.1 bt102.2.1 bt102.2.2).bind fun t112 => (if (t109 != t112) = true then (laws_FnAble.j0 k bt102.1 bt102.2.1 bt102.2.2 t109 t110 t111 true) else ((spec_Able.f k bt102.1 bt102.2.1 bt102.2.2).bind fun t113 => (if (t110 != t113) = true then (laws_FnAble.j0 k bt102.1 bt102.2.1 bt102.2.2 t109 t110 t111 true) else ((spec_Executor.f k bt102.1 bt102.2.1 bt102.2.2).bind fun t114 => (laws_FnAble.j0 k bt102.1 bt102.2.1 bt102.2.2 t109 t110 t111 (t111 != t114))))))))))))) = some r := h
  clear h
  replace H := Option.bind_eq_some_iff.mp H
  obtain ⟨t101, A20, H⟩ := H
  replace H : (if t101 = true then (some true) else ((spec_DrawCanTurn.f k l0).bind fun bt102 => ((impl_CanTurn.f k bt102.1 bt102.2.1 bt102.2.2).bind fun t109 => ((impl_Able.f k bt102.1 bt102.2.1 bt102.2.2).bind fun t110 => ((impl_Executor.f k bt102.1 bt102.2.1 bt102.2.2).bind fun t111 => ((spec_CanTurn.f k bt102.1 bt102.2.1 bt102.2.2).bind fun t112 => (if (t109 != t112) = true then (laws_FnAble.j0 k bt102.1 bt102.2.1 bt102.2.2 t109 t110 t111 true) else ((spec_Able.f k bt102.1 bt102.2.1 bt102.2.2).bind fun t113 => (if (t110 != t113) = true then (laws_FnAble.j0 k bt102.1 bt102.2.1 bt102.2.2 t109 t110 t111 true) else ((spec_Executor.f k bt102.1 bt102.2.1 bt102.2.2).bind fun t114 => (laws_FnAble.j0 k bt102.1 bt102.2.1 bt102.2.2 t109 t110 t111 (t111 != t114)))))))))))) = some r := H
  have A2 := Aside0.mk A20
  clear A20
  by_cases c3 : t101 = true
  · subst c3
    have H1 : (some true) = some r := by rw [if_pos rfl] at H; exact H
    clear H
    have H := H1
    clear H1
    obtain rfl := Option.some.inj H
    go_enter Try.func3, Try.ntmps3
    go_wp2_with (first | ((with_reducible refine gate_callee (f := 4) rfl ?_); refine gL (some 12) Try.func4 #[.slice A0 l0.length c0] ?_; (with_reducible refine (laws_big.calls _ _ l0 true _ ?side1 ?side2 A2.out).mono ?_); (case side1 => exact cq HR0.out); (case side2 => exact HC0.out); rintro e w' ⟨rfl, ⟨nd, rfl⟩⟩; refine ⟨_, rfl, ?_⟩))
    all_goals go_ret
    all_goals exact ⟨sR, bq HB⟩
  replace c3 := Bool.eq_false_iff.mpr c3
  subst c3
  have H1 : ((spec_DrawCanTurn.f k l0).bind fun bt102 => ((impl_CanTurn.f k bt102.1 bt102.2.1 bt102.2.2).bind fun t109 => ((impl_Able.f k bt102.1 bt102.2.1 bt102.2.2).bind fun t110 => ((impl_Executor.f k bt102.1 bt102.2.1 bt102.2.2).bind fun t111 => ((spec_CanTurn.f k bt102.1 bt102.2.1 bt102.2.2).bind fun t112 => (if (t109 != t112) = true then (laws_FnAble.j0 k bt102.1 bt102.2.1 bt102.2.2 t109 t110 t111 true) else ((spec_Able.f k bt102.1 bt102.2.1 bt102.2.2).bind fun t113 => (if (t110 != t113) = true then (laws_FnAble.j0 k bt102.1 bt102.2.1 bt102.2.2 t109 t110 t111 true) else ((spec_Executor.f k bt102.1 bt102.2.1 bt102.2.2).bind fun t114 => (laws_FnAble.j0 k bt102.1 bt102.2.1 bt102.2.2 t109 t110 t111 (t111 != t114))))))))))) = some r := by rw [if_neg (show ¬ (false = true) by decide)] at H; exact H
  clear H
  have H := H1
  clear H1
  replace H := Option.bind_eq_some_iff.mp H
  obtain ⟨⟨t102, t103, t104⟩, A40, H⟩ := H
  replace H : ((impl_CanTurn.f k t102 t103 t104).bind fun t109 => ((impl_Able.f k t102 t103 t104).bind fun t110 => ((impl_Executor.f k t102 t103 t104).bind fun t111 => ((spec_CanTurn.f k t102 t103 t104).bind fun t112 => (if (t109 != t112) = true then (laws_FnAble.j0 k t102 t103 t104 t109 t110 t111 true) else ((spec_Able.f k t102 t103 t104).bind fun t113 => (if (t110 != t113) = true then (laws_FnAble.j0 k t102 t103 t104 t109 t110 t111 true) else ((spec_Executor.f k t102 t103 t104).bind fun t114 => (laws_FnAble.j0 k t102 t103 t104 t109 t110 t111 (t111 != t114)))))))))) = some r := H
  have A4 := Aside0.mk A40
  clear A40
  replace H := Option.bind_eq_some_iff.mp H
  obtain ⟨t109, A50, H⟩ := H
  replace H : ((impl_Able.f k t102 t103 t104).bind fun t110 => ((impl_Executor.f k t102 t103 t104).bind fun t111 => ((spec_CanTurn.f k t102 t103 t104).bind fun t112 => (if (t109 != t112) = true then (laws_FnAble.j0 k t102 t103 t104 t109 t110 t111 true) else ((spec_Able.f k t102 t103 t104).bind fun t113 => (if (t110 != t113) = true then (laws_FnAble.j0 k t102 t103 t104 t109 t110 t111 true) else ((spec_Executor.f k t102 t103 t104).bind fun t114 => (laws_FnAble.j0 k t102 t103 t104 t109 t110 t111 (t111 != t114))))))))) = some r := H
  have A5 := Aside0.mk A50
  clear A50
  replace H := Option.bind_eq_some_iff.mp H
  obtain ⟨t110, A60, H⟩ := H
  replace H : ((impl_Executor.f k t102 t103 t104).bind fun t111 => ((spec_CanTurn.f k t102 t103 t104).bind fun t112 => (if (t109 != t112) = true then (laws_FnAble.j0 k t102 t103 t104 t109 t110 t111 true) else ((spec_Able.f k t102 t103 t104).bind fun t113 => (if (t110 != t113) = true then (laws_FnAble.j0 k t102 t103 t104 t109 t110 t111 true) else ((spec_Executor.f k t102 t103 t104).bind fun t114 => (laws_FnAble.j0 k t102 t103 t104 t109 t110 t111 (t111 != t114)))))))) = some r := H
  have A6 := Aside0.mk A60
  clear A60
  replace H := Option.bind_eq_some_iff.mp H
  obtain ⟨t111, A70, H⟩ := H
  replace H : ((spec_CanTurn.f k t102 t103 t104).bind fun t112 => (if (t109 != t112) = true then (laws_FnAble.j0 k t102 t103 t104 t109 t110 t111 true) else ((spec_Able.f k t102 t103 t104).bind fun t113 => (if (t110 != t113) = true then (laws_FnAble.j0 k t102 t103 t104 t109 t110 t111 true) else ((spec_Executor.f k t102 t103 t104).bind fun t114 => (laws_FnAble.j0 k t102 t103 t104 t109 t110 t111 (t111 != t114))))))) = some r := H
  have A7 := Aside0.mk A70
  clear A70
  have HC8 := Aside0.mk H
  clear H
  go_enter Try.func3, Try.ntmps3
  go_upto_region 5 with (first | ((with_reducible refine gate_callee (f := 4) rfl ?_); refine gL (some 12) Try.func4 #[.slice A0 l0.length c0] ?_; (with_reducible refine (laws_big.calls _ _ l0 false _ ?side1 ?side2 A2.out).mono ?_); (case side1 => exact cq HR0.out); (case side2 => exact HC0.out); rintro e w' ⟨rfl, ⟨nd, rfl⟩⟩; refine ⟨_, rfl, ?_⟩) | ((with_reducible refine gate_callee (f := 5) rfl ?_); refine gL (some 15) Try.func5 #[.slice A0 l0.length c0] ?_; (with_reducible refine (spec_DrawCanTurn.calls k _ _ l0 t102 t103 t104 _ ?side1 ?side2 A4.out).mono ?_); (case side1 => exact cq HR0.out); (case side2 => exact HC0.out); rintro e w9 ⟨v105, v107, rfl, ho0, ho1, hb⟩; refine ⟨_, rfl, ?_⟩; have n0_ := aM (Kd.R_lower ho0 (below_size (bq HB))); have n1_ := aM (Kd.S_lower ho1 (below_size (bq HB))); have n2_ := aM (below_step (bq HB) hb); clear HB; have HO106 := n0_; have HO108 := n1_; have HB := n2_; clear n0_ n1_ n2_; (try clear hb); (try clear hb2); (try clear hk); (try clear hi); (try clear ho0); (try clear ho1); obtain ⟨Ao10, co10, eo10⟩ := Kd.R_slice HO106.out; subst eo10; obtain ⟨Ao11, co11, eo11⟩ := Kd.S_slice HO108.out; subst eo11) | ((with_reducible refine gate_callee (f := 6) rfl ?_); refine gL (some 22) Try.func6 #[.slice Ao10 t102.length co10, .slice Ao11 t103.length co11, .int .i64 t104] ?_; (with_reducible refine (impl_CanTurn.calls k _ _ t102 _ _ t103 t104 t109 _ ?side1 ?side2 ?side3 ?side4 A5.out).mono ?_); (case side1 => exact cq (Kd.R_reads' HO106.out).2.2); (case side2 => exact (Kd.R_reads' HO106.out).2.1); (case side3 => exact cq (Kd.S_reads' HO108.out).2.2); (case side4 => exact (Kd.S_reads' HO108.out).2.1); rintro e w12 ⟨rfl, hb⟩; refine ⟨_, rfl, ?_⟩; have n0_ := aM (Kd.R_below (rq HO106) hb); have n1_ := aM (Kd.S_below (sq HO108) hb); have n2_ := aM (below_step (bq HB) hb); clear HO106 HO108 HB; have HO106 := n0_; have HO108 := n1_; have HB := n2_; clear n0_ n1_ n2_; (try clear hb); (try clear hb2); (try clear hk); (try clear hi)) | ((with_reducible refine gate_callee (f := 7) rfl ?_); refine gL (some 26) Try.func7 #[.slice Ao10 t102.length co10, .slice Ao11 t103.length co11, .int .i64 t104] ?_; (with_reducible refine (impl_Able.calls k _ _ t102 _ _ t103 t104 t110 _ ?side1 ?side2 ?side3 ?side4 A6.out).mono ?_); (case side1 => exact cq (Kd.R_reads' HO106.out).2.2); (case side2 => exact (Kd.R_reads' HO106.out).2.1); (case side3 => exact cq (Kd.S_reads' HO108.out).2.2); (case side4 => exact (Kd.S_reads' HO108.out).2.1); rintro e w13 ⟨rfl, hb⟩; refine ⟨_, rfl, ?_⟩; have n0_ := aM (Kd.R_below (rq HO106) hb); have n1_ := aM (Kd.S_below (sq HO108) hb); have n2_ := aM (below_step (bq HB) hb); clear HO106 HO108 HB; have HO106 := n0_; have HO108 := n1_; have HB := n2_; clear n0_ n1_ n2_; (try clear hb); (try clear hb2); (try clear hk); (try clear hi)) | ((with_reducible refine gate_callee (f := 8) rfl ?_); refine gL (some 30) Try.func8 #[.slice Ao10 t102.length co10, .slice Ao11 t103.length co11, .int .i64 t104] ?_; (with_reducible refine (impl_Executor.calls k _ _ t102 _ _ t103 t104 t111 _ ?side1 ?side2 ?side3 ?side4 A7.out).mono ?_); (case side1 => exact cq (Kd.R_reads' HO106.out).2.2); (case side2 => exact (Kd.R_reads' HO106.out).2.1); (case side3 => exact cq (Kd.S_reads' HO108.out).2.2); (case side4 => exact (Kd.S_reads' HO108.out).2.1); rintro e w14 ⟨rfl, hb⟩; refine ⟨_, rfl, ?_⟩; have n0_ := aM (Kd.R_below (rq HO106) hb); have n1_ := aM (Kd.S_below (sq HO108) hb); have n2_ := aM (below_step (bq HB) hb); clear HO106 HO108 HB; have HO106 := n0_; have HO108 := n1_; have HB := n2_; clear n0_ n1_ n2_; (try clear hb); (try clear hb2); (try clear hk); (try clear hi)))
  (try simp only [Act.put, tA, tB, tC])
  go_cut [52] (fun v52 wc => ∃ (kq : Nat) (x52_7 : Bool), v52 = .bool x52_7 ∧ Aside0 (laws_FnAble.j0 kq t102 t103 t104 t109 t110 t111 x52_7 = some r) ∧ Aside0 (kq ≤ k) ∧ Aside0 (Kd.R k32 32 wc w.heap.size (fun _ => True) (.slice Ao10 t102.length co10) t102) ∧ Aside0 (Kd.S k41 41 wc w.heap.size (fun _ => True) (.slice Ao11 t103.length co11) t103) ∧ Aside0 (Below w.heap.size w wc))
  case first =>
    have H := HC8.out
    clear HC8
    replace H := Option.bind_eq_some_iff.mp H
    obtain ⟨t112, A150, H⟩ := H
    replace H : (if (t109 != t112) = true then (laws_FnAble.j0 k t102 t103 t104 t109 t110 t111 true) else ((spec_Able.f k t102 t103 t104).bind fun t113 => (if (t110 != t113) = true then (laws_FnAble.j0 k t102 t103 t104 t109 t110 t111 true) else ((spec_Executor.f k t102 t103 t104).bind fun t114 => (laws_FnAble.j0 k t102 t103 t104 t109 t110 t111 (t111 != t114)))))) = some r := H
    have A15 := Aside0.mk A150
    clear A150
    by_cases c16 : (t109 != t112) = true
    · rw [if_pos c16] at H
      have c16b0 : (t109 != t112) = true := c16
      (try (have c16b1 : decide (t109 = t112) = false := by simpa using c16))
      (try (have c16b2 : (t109 == t112) = false := by simpa using c16))
      (try (have c16b3 : ¬ (t109 = t112) := by simpa using c16))
      clear c16
      (first | rw [c16b0] | (simp only [i64_w, i32_w]; rw [c16b0]) | skip)
      have H' := Aside0.mk H
      clear H
      go_wp2_with (first | ((with_reducible refine gate_callee (f := 9) rfl ?_); refine gL (some 35) Try.func9 #[.slice Ao10 t102.length co10, .slice Ao11 t103.length co11, .int .i64 t104] ?_; (with_reducible refine (spec_CanTurn.calls k _ _ t102 _ _ t103 t104 t112 _ ?side1 ?side2 ?side3 ?side4 A15.out).mono ?_); (case side1 => exact cq (Kd.R_reads' HO106.out).2.2); (case side2 => exact (Kd.R_reads' HO106.out).2.1); (case side3 => exact cq (Kd.S_reads' HO108.out).2.2); (case side4 => exact (Kd.S_reads' HO108.out).2.1); rintro e w17 ⟨rfl, hb⟩; refine ⟨_, rfl, ?_⟩; have n0_ := aM (Kd.R_below (rq HO106) hb); have n1_ := aM (Kd.S_below (sq HO108) hb); have n2_ := aM (below_step (bq HB) hb); clear HO106 HO108 HB; have HO106 := n0_; have HO108 := n1_; have HB := n2_; clear n0_ n1_ n2_; (try clear hb); (try clear hb2); (try clear hk); (try clear hi)))
      go_meet
      case rel => exact ⟨_, (true), sQ, H', ⟨by first | omega | exact Nat.le_refl _⟩, ⟨rq HO106⟩, ⟨sq HO108⟩, ⟨bq HB⟩⟩
    rw [if_neg c16] at H
    have c16b0 : (t109 != t112) = false := by simpa using c16
    (try (have c16b1 : decide (t109 = t112) = true := by simpa using c16))
    (try (have c16b2 : (t109 == t112) = true := by simpa using c16))
    clear c16
    (first | rw [c16b0] | (simp only [i64_w, i32_w]; rw [c16b0]) | skip)
    replace H := Option.bind_eq_some_iff.mp H
    obtain ⟨t113, A180, H⟩ := H
    replace H : (if (t110 != t113) = true then (laws_FnAble.j0 k t102 t103 t104 t109 t110 t111 true) else ((spec_Executor.f k t102 t103 t104).bind fun t114 => (laws_FnAble.j0 k t102 t103 t104 t109 t110 t111 (t111 != t114)))) = some r := H
    have A18 := Aside0.mk A180
    clear A180
    by_cases c19 : (t110 != t113) = true
    · rw [if_pos c19] at H
      have c19b0 : (t110 != t113) = true := c19
      (try (have c19b1 : decide (t110 = t113) = false := by simpa using c19))
      (try (have c19b2 : (t110 == t113) = false := by simpa using c19))
      (try (have c19b3 : ¬ (t110 = t113) := by simpa using c19))
      clear c19
      have H' := Aside0.mk H
      clear H
      go_wp2_with (first | ((with_reducible refine gate_callee (f := 9) rfl ?_); refine gL (some 35) Try.func9 #[.slice Ao10 t102.length co10, .slice Ao11 t103.length co11, .int .i64 t104] ?_; (with_reducible refine (spec_CanTurn.calls k _ _ t102 _ _ t103 t104 t112 _ ?side1 ?side2 ?side3 ?side4 A15.out).mono ?_); (case side1 => exact cq (Kd.R_reads' HO106.out).2.2); (case side2 => exact (Kd.R_reads' HO106.out).2.1); (case side3 => exact cq (Kd.S_reads' HO108.out).2.2); (case side4 => exact (Kd.S_reads' HO108.out).2.1); rintro e w20 ⟨rfl, hb⟩; refine ⟨_, rfl, ?_⟩; have n0_ := aM (Kd.R_below (rq HO106) hb); have n1_ := aM (Kd.S_below (sq HO108) hb); have n2_ := aM (below_step (bq HB) hb); clear HO106 HO108 HB; have HO106 := n0_; have HO108 := n1_; have HB := n2_; clear n0_ n1_ n2_; (try clear hb); (try clear hb2); (try clear hk); (try clear hi)) | (go_at_call 10; (with_reducible refine (spec_Able.calls k _ _ t102 _ _ t103 t104 t113 _ ?side1 ?side2 ?side3 ?side4 A18.out).mono ?_); (case side1 => exact cq (Kd.R_reads' HO106.out).2.2); (case side2 => exact (Kd.R_reads' HO106.out).2.1); (case side3 => exact cq (Kd.S_reads' HO108.out).2.2); (case side4 => exact (Kd.S_reads' HO108.out).2.1); rintro e w21 ⟨rfl, hb⟩; have n0_ := aM (Kd.R_below (rq HO106) hb); have n1_ := aM (Kd.S_below (sq HO108) hb); have n2_ := aM (below_step (bq HB) hb); clear HO106 HO108 HB; have HO106 := n0_; have HO108 := n1_; have HB := n2_; clear n0_ n1_ n2_; (try clear hb); (try clear hb2); (try clear hk); (try clear hi)))
      go_meet
      case rel => exact ⟨_, (true), sQ, H', ⟨by first | omega | exact Nat.le_refl _⟩, ⟨rq HO106⟩, ⟨sq HO108⟩, ⟨bq HB⟩⟩
    rw [if_neg c19] at H
    have c19b0 : (t110 != t113) = false := by simpa using c19
    (try (have c19b1 : decide (t110 = t113) = true := by simpa using c19))
    (try (have c19b2 : (t110 == t113) = true := by simpa using c19))
    clear c19
    replace H := Option.bind_eq_some_iff.mp H
    obtain ⟨t114, A220, H⟩ := H
    replace H : (laws_FnAble.j0 k t102 t103 t104 t109 t110 t111 (t111 != t114)) = some r := H
    have A22 := Aside0.mk A220
    clear A220
    have H' := Aside0.mk H
    clear H
    go_wp2_with (first | ((with_reducible refine gate_callee (f := 9) rfl ?_); refine gL (some 35) Try.func9 #[.slice Ao10 t102.length co10, .slice Ao11 t103.length co11, .int .i64 t104] ?_; (with_reducible refine (spec_CanTurn.calls k _ _ t102 _ _ t103 t104 t112 _ ?side1 ?side2 ?side3 ?side4 A15.out).mono ?_); (case side1 => exact cq (Kd.R_reads' HO106.out).2.2); (case side2 => exact (Kd.R_reads' HO106.out).2.1); (case side3 => exact cq (Kd.S_reads' HO108.out).2.2); (case side4 => exact (Kd.S_reads' HO108.out).2.1); rintro e w23 ⟨rfl, hb⟩; refine ⟨_, rfl, ?_⟩; have n0_ := aM (Kd.R_below (rq HO106) hb); have n1_ := aM (Kd.S_below (sq HO108) hb); have n2_ := aM (below_step (bq HB) hb); clear HO106 HO108 HB; have HO106 := n0_; have HO108 := n1_; have HB := n2_; clear n0_ n1_ n2_; (try clear hb); (try clear hb2); (try clear hk); (try clear hi)) | (go_at_call 10; (with_reducible refine (spec_Able.calls k _ _ t102 _ _ t103 t104 t113 _ ?side1 ?side2 ?side3 ?side4 A18.out).mono ?_); (case side1 => exact cq (Kd.R_reads' HO106.out).2.2); (case side2 => exact (Kd.R_reads' HO106.out).2.1); (case side3 => exact cq (Kd.S_reads' HO108.out).2.2); (case side4 => exact (Kd.S_reads' HO108.out).2.1); rintro e w24 ⟨rfl, hb⟩; have n0_ := aM (Kd.R_below (rq HO106) hb); have n1_ := aM (Kd.S_below (sq HO108) hb); have n2_ := aM (below_step (bq HB) hb); clear HO106 HO108 HB; have HO106 := n0_; have HO108 := n1_; have HB := n2_; clear n0_ n1_ n2_; (try clear hb); (try clear hb2); (try clear hk); (try clear hi)) | (go_at_call 11; (with_reducible refine (spec_Executor.calls k _ _ t102 _ _ t103 t104 t114 _ ?side1 ?side2 ?side3 ?side4 A22.out).mono ?_); (case side1 => exact cq (Kd.R_reads' HO106.out).2.2); (case side2 => exact (Kd.R_reads' HO106.out).2.1); (case side3 => exact cq (Kd.S_reads' HO108.out).2.2); (case side4 => exact (Kd.S_reads' HO108.out).2.1); rintro e w25 ⟨rfl, hb⟩; have n0_ := aM (Kd.R_below (rq HO106) hb); have n1_ := aM (Kd.S_below (sq HO108) hb); have n2_ := aM (below_step (bq HB) hb); clear HO106 HO108 HB; have HO106 := n0_; have HO108 := n1_; have HB := n2_; clear n0_ n1_ n2_; (try clear hb); (try clear hb2); (try clear hk); (try clear hi)))
    go_meet
    case rel => exact ⟨_, ((t111 != t114)), sQ, H', ⟨by first | omega | exact Nat.le_refl _⟩, ⟨rq HO106⟩, ⟨sq HO108⟩, ⟨bq HB⟩⟩
  case rest =>
    clear HC8
    try clear c1
    try clear p2
    try clear c3
    try clear c4
    try clear c5
    try clear c6
    try clear c7
    try clear c8
    try clear c9
    try clear c16
    try clear c16b0
    try clear c16b1
    try clear c16b2
    try clear c19
    try clear c19b0
    try clear c19b1
    try clear c19b2
    obtain ⟨kq, x52_7, rfl, HA, HJ7, HO_3, HO_4, HB⟩ := hcut
    cases kq with
    | zero => exact absurd HA.out (by simp [laws_FnAble.j0])
    | succ kj7 =>
      have H := HA.out
      clear HA
      simp only [laws_FnAble.j0] at H
      by_cases c26 : x52_7 = true
      · subst c26
        have H1 : (some false) = some r := by rw [if_pos rfl] at H; exact H
        clear H
        have H := H1
        clear H1
        exact absurd ((Option.some.inj H).trans HRT.out) Bool.false_ne_true
      replace c26 := Bool.eq_false_iff.mpr c26
      subst c26
      have H1 : (if t110 = true then ((impl_TaskAt.f t102 t104).bind fun t115 => ((impl_TaskAt.f t102 t111).bind fun t116 => (if t115 < 0 then (some false) else (if t116 < 0 then (some false) else (if 0 ≤ t115 then (if t115 < (t102.length : Int) then (if ((rd_T32 t102 t115).f3) = 1 then (if 0 ≤ t116 then (if t116 < (t102.length : Int) then (if ((rd_T32 t102 t116).f3) = 1 then ((impl_WaitAt.f t103 t111).bind fun t119 => (if t119 ≥ 0 then (some false) else (if ((rd_T32 t102 t115).f1) = 1 then (if (t109 == (decide (((rd_T32 t102 t115).f7) > 0))) = true then ((impl_WaitAt.f t103 t104).bind fun t122 => (if t122 ≥ 0 then (some true) else (some (t111 == t104)))) else (some false)) else (if (t109 == true) = true then ((impl_WaitAt.f t103 t104).bind fun t123 => (if t123 ≥ 0 then (some true) else (some (t111 == t104)))) else (some false))))) else (some false)) else (none)) else (none)) else (some false)) else (none)) else (none)))))) else (some (!t109))) = some r := by rw [if_neg (show ¬ (false = true) by decide)] at H; exact H
      clear H
      have H := H1
      clear H1
      by_cases c27 : t110 = true
      · subst c27
        have H1 : ((impl_TaskAt.f t102 t104).bind fun t115 => ((impl_TaskAt.f t102 t111).bind fun t116 => (if t115 < 0 then (some false) else (if t116 < 0 then (some false) else (if 0 ≤ t115 then (if t115 < (t102.length : Int) then (if ((rd_T32 t102 t115).f3) = 1 then (if 0 ≤ t116 then (if t116 < (t102.length : Int) then (if ((rd_T32 t102 t116).f3) = 1 then ((impl_WaitAt.f t103 t111).bind fun t119 => (if t119 ≥ 0 then (some false) else (if ((rd_T32 t102 t115).f1) = 1 then (if (t109 == (decide (((rd_T32 t102 t115).f7) > 0))) = true then ((impl_WaitAt.f t103 t104).bind fun t122 => (if t122 ≥ 0 then (some true) else (some (t111 == t104)))) else (some false)) else (if (t109 == true) = true then ((impl_WaitAt.f t103 t104).bind fun t123 => (if t123 ≥ 0 then (some true) else (some (t111 == t104)))) else (some false))))) else (some false)) else (none)) else (none)) else (some false)) else (none)) else (none)))))) = some r := by rw [if_pos rfl] at H; exact H
        clear H
        have H := H1
        clear H1
        replace H := Option.bind_eq_some_iff.mp H
        obtain ⟨t115, A280, H⟩ := H
        replace H : ((impl_TaskAt.f t102 t111).bind fun t116 => (if t115 < 0 then (some false) else (if t116 < 0 then (some false) else (if 0 ≤ t115 then (if t115 < (t102.length : Int) then (if ((rd_T32 t102 t115).f3) = 1 then (if 0 ≤ t116 then (if t116 < (t102.length : Int) then (if ((rd_T32 t102 t116).f3) = 1 then ((impl_WaitAt.f t103 t111).bind fun t119 => (if t119 ≥ 0 then (some false) else (if ((rd_T32 t102 t115).f1) = 1 then (if (t109 == (decide (((rd_T32 t102 t115).f7) > 0))) = true then ((impl_WaitAt.f t103 t104).bind fun t122 => (if t122 ≥ 0 then (some true) else (some (t111 == t104)))) else (some false)) else (if (t109 == true) = true then ((impl_WaitAt.f t103 t104).bind fun t123 => (if t123 ≥ 0 then (some true) else (some (t111 == t104)))) else (some false))))) else (some false)) else (none)) else (none)) else (some false)) else (none)) else (none))))) = some r := H
        have A28 := Aside0.mk A280
        clear A280
        replace H := Option.bind_eq_some_iff.mp H
        obtain ⟨t116, A290, H⟩ := H
        replace H : (if t115 < 0 then (some false) else (if t116 < 0 then (some false) else (if 0 ≤ t115 then (if t115 < (t102.length : Int) then (if ((rd_T32 t102 t115).f3) = 1 then (if 0 ≤ t116 then (if t116 < (t102.length : Int) then (if ((rd_T32 t102 t116).f3) = 1 then ((impl_WaitAt.f t103 t111).bind fun t119 => (if t119 ≥ 0 then (some false) else (if ((rd_T32 t102 t115).f1) = 1 then (if (t109 == (decide (((rd_T32 t102 t115).f7) > 0))) = true then ((impl_WaitAt.f t103 t104).bind fun t122 => (if t122 ≥ 0 then (some true) else (some (t111 == t104)))) else (some false)) else (if (t109 == true) = true then ((impl_WaitAt.f t103 t104).bind fun t123 => (if t123 ≥ 0 then (some true) else (some (t111 == t104)))) else (some false))))) else (some false)) else (none)) else (none)) else (some false)) else (none)) else (none)))) = some r := H
        have A29 := Aside0.mk A290
        clear A290
        by_cases c30 : t115 < 0
        · rw [if_pos c30] at H
          have c30b0 : decide (t115 < 0) = true := decide_eq_true c30
          clear c30
          exact absurd ((Option.some.inj H).trans HRT.out) Bool.false_ne_true
        rw [if_neg c30] at H
        have c30b0 : decide (t115 < 0) = false := decide_eq_false c30
        clear c30
        by_cases c31 : t116 < 0
        · rw [if_pos c31] at H
          have c31b0 : decide (t116 < 0) = true := decide_eq_true c31
          clear c31
          exact absurd ((Option.some.inj H).trans HRT.out) Bool.false_ne_true
        rw [if_neg c31] at H
        have c31b0 : decide (t116 < 0) = false := decide_eq_false c31
        clear c31
        by_cases c32 : 0 ≤ t115
        · rw [if_pos c32] at H
          have c32b0 : decide (0 ≤ t115) = true := decide_eq_true c32
          clear c32
          by_cases c33 : t115 < (t102.length : Int)
          · rw [if_pos c33] at H
            have c33b0 : decide (t115 < (t102.length : Int)) = true := decide_eq_true c33
            clear c33
            by_cases c34 : ((rd_T32 t102 t115).f3) = 1
            · rw [if_pos c34] at H
              have c34b0 : (((rd_T32 t102 t115).f3) == 1) = true := beq_iff_eq.mpr c34
              have c34b1 : (((rd_T32 t102 t115).f3) != 1) = false := bne_eq_false_iff_eq.mpr c34
              clear c34
              by_cases c35 : 0 ≤ t116
              · rw [if_pos c35] at H
                have c35b0 : decide (0 ≤ t116) = true := decide_eq_true c35
                clear c35
                by_cases c36 : t116 < (t102.length : Int)
                · rw [if_pos c36] at H
                  have c36b0 : decide (t116 < (t102.length : Int)) = true := decide_eq_true c36
                  clear c36
                  by_cases c37 : ((rd_T32 t102 t116).f3) = 1
                  · rw [if_pos c37] at H
                    have c37b0 : (((rd_T32 t102 t116).f3) == 1) = true := beq_iff_eq.mpr c37
                    have c37b1 : (((rd_T32 t102 t116).f3) != 1) = false := bne_eq_false_iff_eq.mpr c37
                    clear c37
                    replace H := Option.bind_eq_some_iff.mp H
                    obtain ⟨t119, A380, H⟩ := H
                    replace H : (if t119 ≥ 0 then (some false) else (if ((rd_T32 t102 t115).f1) = 1 then (if (t109 == (decide (((rd_T32 t102 t115).f7) > 0))) = true then ((impl_WaitAt.f t103 t104).bind fun t122 => (if t122 ≥ 0 then (some true) else (some (t111 == t104)))) else (some false)) else (if (t109 == true) = true then ((impl_WaitAt.f t103 t104).bind fun t123 => (if t123 ≥ 0 then (some true) else (some (t111 == t104)))) else (some false)))) = some r := H
                    have A38 := Aside0.mk A380
                    clear A380
                    by_cases c39 : t119 ≥ 0
                    · rw [if_pos c39] at H
                      have c39b0 : decide (0 ≤ t119) = true := decide_eq_true c39
                      clear c39
                      exact absurd ((Option.some.inj H).trans HRT.out) Bool.false_ne_true
                    rw [if_neg c39] at H
                    have c39b0 : decide (0 ≤ t119) = false := decide_eq_false c39
                    clear c39
                    by_cases c40 : ((rd_T32 t102 t115).f1) = 1
                    · rw [if_pos c40] at H
                      have c40b0 : (((rd_T32 t102 t115).f1) == 1) = true := beq_iff_eq.mpr c40
                      have c40b1 : (((rd_T32 t102 t115).f1) != 1) = false := bne_eq_false_iff_eq.mpr c40
                      clear c40
                      by_cases c41 : (t109 == (decide (((rd_T32 t102 t115).f7) > 0))) = true
                      · rw [if_pos c41] at H
                        have c41b0 : (t109 == (decide (((rd_T32 t102 t115).f7) > 0))) = true := c41
                        (try (have c41b1 : decide (t109 = (decide (((rd_T32 t102 t115).f7) > 0))) = true := by simpa using c41))
                        (try (have c41b2 : (t109 == (decide (((rd_T32 t102 t115).f7) > 0))) = true := by simpa using c41))
                        clear c41
                        replace H := Option.bind_eq_some_iff.mp H
                        obtain ⟨t122, A420, H⟩ := H
                        replace H : (if t122 ≥ 0 then (some true) else (some (t111 == t104))) = some r := H
                        have A42 := Aside0.mk A420
                        clear A420
                        by_cases c43 : t122 ≥ 0
                        · rw [if_pos c43] at H
                          have c43b0 : decide (0 ≤ t122) = true := decide_eq_true c43
                          clear c43
                          obtain rfl := Option.some.inj H
                          go_wp2_with (first | ((with_reducible refine gate_callee (f := 12) rfl ?_); refine gL (some 59) Try.func12 #[.slice Ao10 t102.length co10, .int .i64 t104] ?_; (with_reducible refine (impl_TaskAt.calls _ _ t102 t104 t115 _ ?side1 ?side2 A28.out).mono ?_); (case side1 => exact cq (Kd.R_reads' HO_3.out).2.2); (case side2 => exact (Kd.R_reads' HO_3.out).2.1); rintro e w44 ⟨rfl, hb⟩; refine ⟨_, rfl, ?_⟩; have n0_ := aM (Kd.R_below (rq HO_3) hb); have n1_ := aM (Kd.S_below (sq HO_4) hb); have n2_ := aM (below_step (bq HB) hb); clear HO_3 HO_4 HB; have HO_3 := n0_; have HO_4 := n1_; have HB := n2_; clear n0_ n1_ n2_; (try clear hb); (try clear hb2); (try clear hk); (try clear hi)) | ((with_reducible refine gate_callee (f := 12) rfl ?_); refine gL (some 62) Try.func12 #[.slice Ao10 t102.length co10, .int .i64 t111] ?_; (with_reducible refine (impl_TaskAt.calls _ _ t102 t111 t116 _ ?side1 ?side2 A29.out).mono ?_); (case side1 => exact cq (Kd.R_reads' HO_3.out).2.2); (case side2 => exact (Kd.R_reads' HO_3.out).2.1); rintro e w45 ⟨rfl, hb⟩; refine ⟨_, rfl, ?_⟩; have n0_ := aM (Kd.R_below (rq HO_3) hb); have n1_ := aM (Kd.S_below (sq HO_4) hb); have n2_ := aM (below_step (bq HB) hb); clear HO_3 HO_4 HB; have HO_3 := n0_; have HO_4 := n1_; have HB := n2_; clear n0_ n1_ n2_; (try clear hb); (try clear hb2); (try clear hk); (try clear hi); have p117 : 0 ≤ (t115 : Int) := dA; have q117 : t115 < (t102.length : Int) := dA; obtain ⟨ad117, e117, hx117_0, hx117_1, hx117_2, hx117_3, hx117_4, hx117_5, hx117_6, hx117_7, hx117_8, hx117_9, hx117_10, hx117_11, hx117_12, hx117_13⟩ := at_T32 (Kd.R_reads' HO_3.out).2.2 t115 p117 q117; cases e117; replace p117 := eq_true p117; replace q117 := eq_true q117; have p118 : 0 ≤ (t116 : Int) := dA; have q118 : t116 < (t102.length : Int) := dA; obtain ⟨ad118, e118, hx118_0, hx118_1, hx118_2, hx118_3, hx118_4, hx118_5, hx118_6, hx118_7, hx118_8, hx118_9, hx118_10, hx118_11, hx118_12, hx118_13⟩ := at_T32 (Kd.R_reads' HO_3.out).2.2 t116 p118 q118; obtain rfl : ad117 = ad118 := (by injection e118); replace p118 := eq_true p118; replace q118 := eq_true q118) | (go_at_call 13; (with_reducible refine (impl_WaitAt.calls _ _ t103 t111 t119 _ ?side1 ?side2 A38.out).mono ?_); (case side1 => exact cq (Kd.S_reads' HO_4.out).2.2); (case side2 => exact (Kd.S_reads' HO_4.out).2.1); rintro e w46 ⟨rfl, hb⟩; have n0_ := aM (Kd.R_below (rq HO_3) hb); have n1_ := aM (Kd.S_below (sq HO_4) hb); have n2_ := aM (below_step (bq HB) hb); clear HO_3 HO_4 HB; have HO_3 := n0_; have HO_4 := n1_; have HB := n2_; clear n0_ n1_ n2_; (try clear hb); (try clear hb2); (try clear hk); (try clear hi); have p120 : 0 ≤ (t115 : Int) := dA; have q120 : t115 < (t102.length : Int) := dA; obtain ⟨ad120, e120, hx120_0, hx120_1, hx120_2, hx120_3, hx120_4, hx120_5, hx120_6, hx120_7, hx120_8, hx120_9, hx120_10, hx120_11, hx120_12, hx120_13⟩ := at_T32 (Kd.R_reads' HO_3.out).2.2 t115 p120 q120; obtain rfl : ad117 = ad120 := (by injection e120); replace p120 := eq_true p120; replace q120 := eq_true q120; have p121 : 0 ≤ (t115 : Int) := dA; have q121 : t115 < (t102.length : Int) := dA; obtain ⟨ad121, e121, hx121_0, hx121_1, hx121_2, hx121_3, hx121_4, hx121_5, hx121_6, hx121_7, hx121_8, hx121_9, hx121_10, hx121_11, hx121_12, hx121_13⟩ := at_T32 (Kd.R_reads' HO_3.out).2.2 t115 p121 q121; obtain rfl : ad117 = ad121 := (by injection e121); replace p121 := eq_true p121; replace q121 := eq_true q121) | (go_at_call 13; (with_reducible refine (impl_WaitAt.calls _ _ t103 t104 t122 _ ?side1 ?side2 A42.out).mono ?_); (case side1 => exact cq (Kd.S_reads' HO_4.out).2.2); (case side2 => exact (Kd.S_reads' HO_4.out).2.1); rintro e w47 ⟨rfl, hb⟩; have n0_ := aM (Kd.R_below (rq HO_3) hb); have n1_ := aM (Kd.S_below (sq HO_4) hb); have n2_ := aM (below_step (bq HB) hb); clear HO_3 HO_4 HB; have HO_3 := n0_; have HO_4 := n1_; have HB := n2_; clear n0_ n1_ n2_; (try clear hb); (try clear hb2); (try clear hk); (try clear hi)))
                          all_goals go_ret
                          all_goals exact ⟨sR, bq HB⟩
                        rw [if_neg c43] at H
                        have c43b0 : decide (0 ≤ t122) = false := decide_eq_false c43
                        clear c43
                        obtain rfl := Option.some.inj H
                        go_wp2_with (first | ((with_reducible refine gate_callee (f := 12) rfl ?_); refine gL (some 59) Try.func12 #[.slice Ao10 t102.length co10, .int .i64 t104] ?_; (with_reducible refine (impl_TaskAt.calls _ _ t102 t104 t115 _ ?side1 ?side2 A28.out).mono ?_); (case side1 => exact cq (Kd.R_reads' HO_3.out).2.2); (case side2 => exact (Kd.R_reads' HO_3.out).2.1); rintro e w48 ⟨rfl, hb⟩; refine ⟨_, rfl, ?_⟩; have n0_ := aM (Kd.R_below (rq HO_3) hb); have n1_ := aM (Kd.S_below (sq HO_4) hb); have n2_ := aM (below_step (bq HB) hb); clear HO_3 HO_4 HB; have HO_3 := n0_; have HO_4 := n1_; have HB := n2_; clear n0_ n1_ n2_; (try clear hb); (try clear hb2); (try clear hk); (try clear hi)) | ((with_reducible refine gate_callee (f := 12) rfl ?_); refine gL (some 62) Try.func12 #[.slice Ao10 t102.length co10, .int .i64 t111] ?_; (with_reducible refine (impl_TaskAt.calls _ _ t102 t111 t116 _ ?side1 ?side2 A29.out).mono ?_); (case side1 => exact cq (Kd.R_reads' HO_3.out).2.2); (case side2 => exact (Kd.R_reads' HO_3.out).2.1); rintro e w49 ⟨rfl, hb⟩; refine ⟨_, rfl, ?_⟩; have n0_ := aM (Kd.R_below (rq HO_3) hb); have n1_ := aM (Kd.S_below (sq HO_4) hb); have n2_ := aM (below_step (bq HB) hb); clear HO_3 HO_4 HB; have HO_3 := n0_; have HO_4 := n1_; have HB := n2_; clear n0_ n1_ n2_; (try clear hb); (try clear hb2); (try clear hk); (try clear hi); have p117 : 0 ≤ (t115 : Int) := dA; have q117 : t115 < (t102.length : Int) := dA; obtain ⟨ad117, e117, hx117_0, hx117_1, hx117_2, hx117_3, hx117_4, hx117_5, hx117_6, hx117_7, hx117_8, hx117_9, hx117_10, hx117_11, hx117_12, hx117_13⟩ := at_T32 (Kd.R_reads' HO_3.out).2.2 t115 p117 q117; cases e117; replace p117 := eq_true p117; replace q117 := eq_true q117; have p118 : 0 ≤ (t116 : Int) := dA; have q118 : t116 < (t102.length : Int) := dA; obtain ⟨ad118, e118, hx118_0, hx118_1, hx118_2, hx118_3, hx118_4, hx118_5, hx118_6, hx118_7, hx118_8, hx118_9, hx118_10, hx118_11, hx118_12, hx118_13⟩ := at_T32 (Kd.R_reads' HO_3.out).2.2 t116 p118 q118; obtain rfl : ad117 = ad118 := (by injection e118); replace p118 := eq_true p118; replace q118 := eq_true q118) | (go_at_call 13; (with_reducible refine (impl_WaitAt.calls _ _ t103 t111 t119 _ ?side1 ?side2 A38.out).mono ?_); (case side1 => exact cq (Kd.S_reads' HO_4.out).2.2); (case side2 => exact (Kd.S_reads' HO_4.out).2.1); rintro e w50 ⟨rfl, hb⟩; have n0_ := aM (Kd.R_below (rq HO_3) hb); have n1_ := aM (Kd.S_below (sq HO_4) hb); have n2_ := aM (below_step (bq HB) hb); clear HO_3 HO_4 HB; have HO_3 := n0_; have HO_4 := n1_; have HB := n2_; clear n0_ n1_ n2_; (try clear hb); (try clear hb2); (try clear hk); (try clear hi); have p120 : 0 ≤ (t115 : Int) := dA; have q120 : t115 < (t102.length : Int) := dA; obtain ⟨ad120, e120, hx120_0, hx120_1, hx120_2, hx120_3, hx120_4, hx120_5, hx120_6, hx120_7, hx120_8, hx120_9, hx120_10, hx120_11, hx120_12, hx120_13⟩ := at_T32 (Kd.R_reads' HO_3.out).2.2 t115 p120 q120; obtain rfl : ad117 = ad120 := (by injection e120); replace p120 := eq_true p120; replace q120 := eq_true q120; have p121 : 0 ≤ (t115 : Int) := dA; have q121 : t115 < (t102.length : Int) := dA; obtain ⟨ad121, e121, hx121_0, hx121_1, hx121_2, hx121_3, hx121_4, hx121_5, hx121_6, hx121_7, hx121_8, hx121_9, hx121_10, hx121_11, hx121_12, hx121_13⟩ := at_T32 (Kd.R_reads' HO_3.out).2.2 t115 p121 q121; obtain rfl : ad117 = ad121 := (by injection e121); replace p121 := eq_true p121; replace q121 := eq_true q121) | (go_at_call 13; (with_reducible refine (impl_WaitAt.calls _ _ t103 t104 t122 _ ?side1 ?side2 A42.out).mono ?_); (case side1 => exact cq (Kd.S_reads' HO_4.out).2.2); (case side2 => exact (Kd.S_reads' HO_4.out).2.1); rintro e w51 ⟨rfl, hb⟩; have n0_ := aM (Kd.R_below (rq HO_3) hb); have n1_ := aM (Kd.S_below (sq HO_4) hb); have n2_ := aM (below_step (bq HB) hb); clear HO_3 HO_4 HB; have HO_3 := n0_; have HO_4 := n1_; have HB := n2_; clear n0_ n1_ n2_; (try clear hb); (try clear hb2); (try clear hk); (try clear hi)))
                        all_goals go_ret
                        all_goals exact ⟨sR, bq HB⟩
                      rw [if_neg c41] at H
                      have c41b0 : (t109 == (decide (((rd_T32 t102 t115).f7) > 0))) = false := by simpa using c41
                      (try (have c41b1 : decide (t109 = (decide (((rd_T32 t102 t115).f7) > 0))) = false := by simpa using c41))
                      (try (have c41b2 : (t109 == (decide (((rd_T32 t102 t115).f7) > 0))) = false := by simpa using c41))
                      (try (have c41b3 : ¬ (t109 = (decide (((rd_T32 t102 t115).f7) > 0))) := by simpa using c41))
                      clear c41
                      exact absurd ((Option.some.inj H).trans HRT.out) Bool.false_ne_true
                    rw [if_neg c40] at H
                    have c40b0 : (((rd_T32 t102 t115).f1) == 1) = false := beq_eq_false_iff_ne.mpr c40
                    have c40b1 : (((rd_T32 t102 t115).f1) != 1) = true := bne_iff_ne.mpr c40
                    by_cases c52 : (t109 == true) = true
                    · rw [if_pos c52] at H
                      have c52b0 : (t109 == true) = true := c52
                      (try (have c52b1 : decide (t109 = true) = true := by simpa using c52))
                      (try (have c52b2 : (t109 == true) = true := by simpa using c52))
                      clear c52
                      replace H := Option.bind_eq_some_iff.mp H
                      obtain ⟨t123, A530, H⟩ := H
                      replace H : (if t123 ≥ 0 then (some true) else (some (t111 == t104))) = some r := H
                      have A53 := Aside0.mk A530
                      clear A530
                      by_cases c54 : t123 ≥ 0
                      · rw [if_pos c54] at H
                        have c54b0 : decide (0 ≤ t123) = true := decide_eq_true c54
                        clear c54
                        obtain rfl := Option.some.inj H
                        go_wp2_with (first | ((with_reducible refine gate_callee (f := 12) rfl ?_); refine gL (some 59) Try.func12 #[.slice Ao10 t102.length co10, .int .i64 t104] ?_; (with_reducible refine (impl_TaskAt.calls _ _ t102 t104 t115 _ ?side1 ?side2 A28.out).mono ?_); (case side1 => exact cq (Kd.R_reads' HO_3.out).2.2); (case side2 => exact (Kd.R_reads' HO_3.out).2.1); rintro e w55 ⟨rfl, hb⟩; refine ⟨_, rfl, ?_⟩; have n0_ := aM (Kd.R_below (rq HO_3) hb); have n1_ := aM (Kd.S_below (sq HO_4) hb); have n2_ := aM (below_step (bq HB) hb); clear HO_3 HO_4 HB; have HO_3 := n0_; have HO_4 := n1_; have HB := n2_; clear n0_ n1_ n2_; (try clear hb); (try clear hb2); (try clear hk); (try clear hi)) | ((with_reducible refine gate_callee (f := 12) rfl ?_); refine gL (some 62) Try.func12 #[.slice Ao10 t102.length co10, .int .i64 t111] ?_; (with_reducible refine (impl_TaskAt.calls _ _ t102 t111 t116 _ ?side1 ?side2 A29.out).mono ?_); (case side1 => exact cq (Kd.R_reads' HO_3.out).2.2); (case side2 => exact (Kd.R_reads' HO_3.out).2.1); rintro e w56 ⟨rfl, hb⟩; refine ⟨_, rfl, ?_⟩; have n0_ := aM (Kd.R_below (rq HO_3) hb); have n1_ := aM (Kd.S_below (sq HO_4) hb); have n2_ := aM (below_step (bq HB) hb); clear HO_3 HO_4 HB; have HO_3 := n0_; have HO_4 := n1_; have HB := n2_; clear n0_ n1_ n2_; (try clear hb); (try clear hb2); (try clear hk); (try clear hi); have p117 : 0 ≤ (t115 : Int) := dA; have q117 : t115 < (t102.length : Int) := dA; obtain ⟨ad117, e117, hx117_0, hx117_1, hx117_2, hx117_3, hx117_4, hx117_5, hx117_6, hx117_7, hx117_8, hx117_9, hx117_10, hx117_11, hx117_12, hx117_13⟩ := at_T32 (Kd.R_reads' HO_3.out).2.2 t115 p117 q117; cases e117; replace p117 := eq_true p117; replace q117 := eq_true q117; have p118 : 0 ≤ (t116 : Int) := dA; have q118 : t116 < (t102.length : Int) := dA; obtain ⟨ad118, e118, hx118_0, hx118_1, hx118_2, hx118_3, hx118_4, hx118_5, hx118_6, hx118_7, hx118_8, hx118_9, hx118_10, hx118_11, hx118_12, hx118_13⟩ := at_T32 (Kd.R_reads' HO_3.out).2.2 t116 p118 q118; obtain rfl : ad117 = ad118 := (by injection e118); replace p118 := eq_true p118; replace q118 := eq_true q118) | (go_at_call 13; (with_reducible refine (impl_WaitAt.calls _ _ t103 t111 t119 _ ?side1 ?side2 A38.out).mono ?_); (case side1 => exact cq (Kd.S_reads' HO_4.out).2.2); (case side2 => exact (Kd.S_reads' HO_4.out).2.1); rintro e w57 ⟨rfl, hb⟩; have n0_ := aM (Kd.R_below (rq HO_3) hb); have n1_ := aM (Kd.S_below (sq HO_4) hb); have n2_ := aM (below_step (bq HB) hb); clear HO_3 HO_4 HB; have HO_3 := n0_; have HO_4 := n1_; have HB := n2_; clear n0_ n1_ n2_; (try clear hb); (try clear hb2); (try clear hk); (try clear hi); have p120 : 0 ≤ (t115 : Int) := dA; have q120 : t115 < (t102.length : Int) := dA; obtain ⟨ad120, e120, hx120_0, hx120_1, hx120_2, hx120_3, hx120_4, hx120_5, hx120_6, hx120_7, hx120_8, hx120_9, hx120_10, hx120_11, hx120_12, hx120_13⟩ := at_T32 (Kd.R_reads' HO_3.out).2.2 t115 p120 q120; obtain rfl : ad117 = ad120 := (by injection e120); replace p120 := eq_true p120; replace q120 := eq_true q120) | (go_at_call 13; (with_reducible refine (impl_WaitAt.calls _ _ t103 t104 t123 _ ?side1 ?side2 A53.out).mono ?_); (case side1 => exact cq (Kd.S_reads' HO_4.out).2.2); (case side2 => exact (Kd.S_reads' HO_4.out).2.1); rintro e w58 ⟨rfl, hb⟩; have n0_ := aM (Kd.R_below (rq HO_3) hb); have n1_ := aM (Kd.S_below (sq HO_4) hb); have n2_ := aM (below_step (bq HB) hb); clear HO_3 HO_4 HB; have HO_3 := n0_; have HO_4 := n1_; have HB := n2_; clear n0_ n1_ n2_; (try clear hb); (try clear hb2); (try clear hk); (try clear hi)))
                        all_goals go_ret
                        all_goals exact ⟨sR, bq HB⟩
                      rw [if_neg c54] at H
                      have c54b0 : decide (0 ≤ t123) = false := decide_eq_false c54
                      clear c54
                      obtain rfl := Option.some.inj H
                      go_wp2_with (first | ((with_reducible refine gate_callee (f := 12) rfl ?_); refine gL (some 59) Try.func12 #[.slice Ao10 t102.length co10, .int .i64 t104] ?_; (with_reducible refine (impl_TaskAt.calls _ _ t102 t104 t115 _ ?side1 ?side2 A28.out).mono ?_); (case side1 => exact cq (Kd.R_reads' HO_3.out).2.2); (case side2 => exact (Kd.R_reads' HO_3.out).2.1); rintro e w59 ⟨rfl, hb⟩; refine ⟨_, rfl, ?_⟩; have n0_ := aM (Kd.R_below (rq HO_3) hb); have n1_ := aM (Kd.S_below (sq HO_4) hb); have n2_ := aM (below_step (bq HB) hb); clear HO_3 HO_4 HB; have HO_3 := n0_; have HO_4 := n1_; have HB := n2_; clear n0_ n1_ n2_; (try clear hb); (try clear hb2); (try clear hk); (try clear hi)) | ((with_reducible refine gate_callee (f := 12) rfl ?_); refine gL (some 62) Try.func12 #[.slice Ao10 t102.length co10, .int .i64 t111] ?_; (with_reducible refine (impl_TaskAt.calls _ _ t102 t111 t116 _ ?side1 ?side2 A29.out).mono ?_); (case side1 => exact cq (Kd.R_reads' HO_3.out).2.2); (case side2 => exact (Kd.R_reads' HO_3.out).2.1); rintro e w60 ⟨rfl, hb⟩; refine ⟨_, rfl, ?_⟩; have n0_ := aM (Kd.R_below (rq HO_3) hb); have n1_ := aM (Kd.S_below (sq HO_4) hb); have n2_ := aM (below_step (bq HB) hb); clear HO_3 HO_4 HB; have HO_3 := n0_; have HO_4 := n1_; have HB := n2_; clear n0_ n1_ n2_; (try clear hb); (try clear hb2); (try clear hk); (try clear hi); have p117 : 0 ≤ (t115 : Int) := dA; have q117 : t115 < (t102.length : Int) := dA; obtain ⟨ad117, e117, hx117_0, hx117_1, hx117_2, hx117_3, hx117_4, hx117_5, hx117_6, hx117_7, hx117_8, hx117_9, hx117_10, hx117_11, hx117_12, hx117_13⟩ := at_T32 (Kd.R_reads' HO_3.out).2.2 t115 p117 q117; cases e117; replace p117 := eq_true p117; replace q117 := eq_true q117; have p118 : 0 ≤ (t116 : Int) := dA; have q118 : t116 < (t102.length : Int) := dA; obtain ⟨ad118, e118, hx118_0, hx118_1, hx118_2, hx118_3, hx118_4, hx118_5, hx118_6, hx118_7, hx118_8, hx118_9, hx118_10, hx118_11, hx118_12, hx118_13⟩ := at_T32 (Kd.R_reads' HO_3.out).2.2 t116 p118 q118; obtain rfl : ad117 = ad118 := (by injection e118); replace p118 := eq_true p118; replace q118 := eq_true q118) | (go_at_call 13; (with_reducible refine (impl_WaitAt.calls _ _ t103 t111 t119 _ ?side1 ?side2 A38.out).mono ?_); (case side1 => exact cq (Kd.S_reads' HO_4.out).2.2); (case side2 => exact (Kd.S_reads' HO_4.out).2.1); rintro e w61 ⟨rfl, hb⟩; have n0_ := aM (Kd.R_below (rq HO_3) hb); have n1_ := aM (Kd.S_below (sq HO_4) hb); have n2_ := aM (below_step (bq HB) hb); clear HO_3 HO_4 HB; have HO_3 := n0_; have HO_4 := n1_; have HB := n2_; clear n0_ n1_ n2_; (try clear hb); (try clear hb2); (try clear hk); (try clear hi); have p120 : 0 ≤ (t115 : Int) := dA; have q120 : t115 < (t102.length : Int) := dA; obtain ⟨ad120, e120, hx120_0, hx120_1, hx120_2, hx120_3, hx120_4, hx120_5, hx120_6, hx120_7, hx120_8, hx120_9, hx120_10, hx120_11, hx120_12, hx120_13⟩ := at_T32 (Kd.R_reads' HO_3.out).2.2 t115 p120 q120; obtain rfl : ad117 = ad120 := (by injection e120); replace p120 := eq_true p120; replace q120 := eq_true q120) | (go_at_call 13; (with_reducible refine (impl_WaitAt.calls _ _ t103 t104 t123 _ ?side1 ?side2 A53.out).mono ?_); (case side1 => exact cq (Kd.S_reads' HO_4.out).2.2); (case side2 => exact (Kd.S_reads' HO_4.out).2.1); rintro e w62 ⟨rfl, hb⟩; have n0_ := aM (Kd.R_below (rq HO_3) hb); have n1_ := aM (Kd.S_below (sq HO_4) hb); have n2_ := aM (below_step (bq HB) hb); clear HO_3 HO_4 HB; have HO_3 := n0_; have HO_4 := n1_; have HB := n2_; clear n0_ n1_ n2_; (try clear hb); (try clear hb2); (try clear hk); (try clear hi)))
                      all_goals go_ret
                      all_goals exact ⟨sR, bq HB⟩
                    rw [if_neg c52] at H
                    have c52b0 : (t109 == true) = false := by simpa using c52
                    (try (have c52b1 : decide (t109 = true) = false := by simpa using c52))
                    (try (have c52b2 : (t109 == true) = false := by simpa using c52))
                    (try (have c52b3 : ¬ (t109 = true) := by simpa using c52))
                    clear c52
                    exact absurd ((Option.some.inj H).trans HRT.out) Bool.false_ne_true
                  rw [if_neg c37] at H
                  have c37b0 : (((rd_T32 t102 t116).f3) == 1) = false := beq_eq_false_iff_ne.mpr c37
                  have c37b1 : (((rd_T32 t102 t116).f3) != 1) = true := bne_iff_ne.mpr c37
                  exact absurd ((Option.some.inj H).trans HRT.out) Bool.false_ne_true
                rw [if_neg c36] at H
                exact absurd H (by simp)
              rw [if_neg c35] at H
              exact absurd H (by simp)
            rw [if_neg c34] at H
            have c34b0 : (((rd_T32 t102 t115).f3) == 1) = false := beq_eq_false_iff_ne.mpr c34
            have c34b1 : (((rd_T32 t102 t115).f3) != 1) = true := bne_iff_ne.mpr c34
            exact absurd ((Option.some.inj H).trans HRT.out) Bool.false_ne_true
          rw [if_neg c33] at H
          exact absurd H (by simp)
        rw [if_neg c32] at H
        exact absurd H (by simp)
      replace c27 := Bool.eq_false_iff.mpr c27
      subst c27
      have H1 : (some (!t109)) = some r := by rw [if_neg (show ¬ (false = true) by decide)] at H; exact H
      clear H
      have H := H1
      clear H1
      obtain rfl := Option.some.inj H
      go_wp2
      all_goals go_ret
      all_goals exact ⟨sR, bq HB⟩

/-- THE ONE PURE STATEMENT of laws_FnAble: yours. -/
def laws_FnAble.Pure : Prop := ∀ (l0 : List Int), l0.length ≤ maxLen → l0.length * 1 ≤ 140737488351232 → (∀ x ∈ l0, (Lit.int .u8 x).wf = true) → ∃ k, laws_FnAble.f k l0 = some true
theorem laws_FnAble.walk (P : laws_FnAble.Pure) (a0 : Option Addr) (len0 cap0 : Nat) (z0 : List Int) (w : World) (w0 : (a0 = none ∧ len0 = 0 ∧ cap0 = 0 ∧ z0 = []) ∨ ∃ x, a0 = some x ∧ len0 ≤ cap0 ∧ cap0 ≤ maxLen ∧ z0.length = cap0 ∧ (∀ i, i < z0.length → w.cell? (x.add i) = some (.int .u8 (z0.getD i 0))) ∧ ∀ n ∈ z0, (Lit.int .u8 n).wf = true) (y0 : len0 * 1 ≤ 140737488351232) :
    Calls Try.prog 3 #[.slice a0 len0 cap0] w fun e w' => e = .returned (.bool true) ∧ Below w.heap.size w w' := by
  obtain ⟨l0, rfl, hr0, hm0, hw0, hc0⟩ := ReadsInt.ofRowC w0
  obtain ⟨k, h⟩ := P l0 hm0 y0 hw0
  refine (laws_FnAble.calls k _ _ l0 true w (Kd.C_of_reads (d := (0 : Int)) (h1 := fun _ => rfl) hr0) hc0 rfl h).mono ?_
  rintro e w' ⟨rfl, hd⟩
  exact ⟨rfl, hd⟩

end Go.Proofs.Ythmcgbjfcjbhkaa.Print
