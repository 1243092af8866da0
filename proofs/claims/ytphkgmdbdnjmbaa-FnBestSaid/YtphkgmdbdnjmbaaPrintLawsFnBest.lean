/- Go functions as plain Lean functions, and that the Go code answers just as these, wherever they answer. Conditions: those of each theorem. Written by a program of this session (wip/patch.py). -/
import Derived.Test.YtphkgmdbdnjmbaaPrint0
import Derived.Test.YtphkgmdbdnjmbaaPrintImplBefore
import Derived.Test.YtphkgmdbdnjmbaaPrintImplBestOf
import Derived.Test.YtphkgmdbdnjmbaaPrintLawsBig
import Derived.Test.YtphkgmdbdnjmbaaPrintLawsWithin
import Derived.Test.YtphkgmdbdnjmbaaPrintSpecBestOf
import Derived.Test.YtphkgmdbdnjmbaaPrintSpecDrawBestOf
import Derived.Test.YtphkgmdbdnjmbaaPrintSpecL3DrawList
import Derived.Test.YtphkgmdbdnjmbaaPrintSpecTasksOk
namespace Go.Proofs.Ytphkgmdbdnjmbaa.Print
open Go.RowKit Go.Proofs.Ytphkgmdbdnjmbaa.Base Go.Proofs.YtphkgmdbdnjmbaaW.PrintWords Go.Proofs.YtphkgmdbdnjmbaaW.PrintLast Go.Proofs.YtphkgmdbdnjmbaaW.PrintMore
attribute [local go_sem] max2_int min2_int max_two min_two max_three min_three max_four min_four   -- for this text's walks alone
set_option linter.unusedVariables false
set_option linter.unusedSimpArgs false

/-! ### laws_FnBest: function 11 -/
mutual
def laws_FnBest.l0 : Nat → List (S27) → List Int → Int → Int → Int → Option (Bool)
  | 0, _, _, _, _, _ => none
  | k + 1, x3, x4, x5, x6, x7 => if x7 < (x4.length : Int) then ((spec_TasksOk.f k x3).bind fun t111 => (laws_FnBest.j1 k x3 x4 x5 x6 x7 t111)) else (laws_FnBest.j1 k x3 x4 x5 x6 x7 false)
def laws_FnBest.j1 : Nat → List (S27) → List Int → Int → Int → Int → Bool → Option (Bool)
  | 0, _, _, _, _, _, _ => none
  | k + 1, x3, x4, x5, x6, x7, x34 => if x34 = true then (if 0 ≤ x7 then (if x7 < (x4.length : Int) then ((impl_TaskAt.f x3 (rd x4 x7)).bind fun t114 => (if t114 ≥ 0 then (if x6 < 0 then (laws_FnBest.j2 k x3 x4 x5 x6 x7 true) else (if 0 ≤ t114 then (if t114 < (x3.length : Int) then (if 0 ≤ x6 then (if x6 < (x3.length : Int) then ((impl_Before.f k ((rd_T27 x3 t114).f0) ((rd_T27 x3 t114).f1) ((rd_T27 x3 t114).f2) ((rd_T27 x3 t114).f3) ((rd_T27 x3 t114).f4) ((rd_T27 x3 t114).f5) ((rd_T27 x3 t114).f6) ((rd_T27 x3 t114).f7) ((rd_T27 x3 t114).f8) ((rd_T27 x3 t114).f9) ((rd_T27 x3 t114).f10) ((rd_T27 x3 t114).f11) ((rd_T27 x3 t114).f12) ((rd_T27 x3 t114).f13) ((rd_T27 x3 x6).f0) ((rd_T27 x3 x6).f1) ((rd_T27 x3 x6).f2) ((rd_T27 x3 x6).f3) ((rd_T27 x3 x6).f4) ((rd_T27 x3 x6).f5) ((rd_T27 x3 x6).f6) ((rd_T27 x3 x6).f7) ((rd_T27 x3 x6).f8) ((rd_T27 x3 x6).f9) ((rd_T27 x3 x6).f10) ((rd_T27 x3 x6).f11) ((rd_T27 x3 x6).f12) ((rd_T27 x3 x6).f13)).bind fun t117 => (laws_FnBest.j2 k x3 x4 x5 x6 x7 t117)) else (none)) else (none)) else (none)) else (none))) else (laws_FnBest.j2 k x3 x4 x5 x6 x7 false))) else (none)) else (none)) else (if x5 = 0 then (some true) else ((laws_within.f k x4 x5).bind fun t112 => (if t112 = true then (some (decide (x6 ≥ 0))) else (some false))))
def laws_FnBest.j2 : Nat → List (S27) → List Int → Int → Int → Int → Bool → Option (Bool)
  | 0, _, _, _, _, _, _ => none
  | k + 1, x3, x4, x5, x6, x7, x59 => if x59 = true then (some false) else (laws_FnBest.l0 k x3 x4 x5 x6 (wrap64 (x7 + 1)))
end
def laws_FnBest.f (k : Nat) (l0 : List Int) : Option (Bool) := (laws_big.f l0).bind fun t101 => (if t101 = true then (some true) else ((spec_DrawBestOf.f k l0).bind fun bt102 => ((impl_BestOf.f k bt102.1 bt102.2).bind fun t108 => ((spec_BestOf.f k bt102.1 bt102.2).bind fun t109 => (if t108 = t109 then ((impl_TaskAt.f bt102.1 t108).bind fun t110 => (laws_FnBest.l0 k bt102.1 bt102.2 t108 t110 0)) else (some false))))))
theorem laws_FnBest.mono_l : ∀ k, (∀ y0 y1 y2 y3 y4, LeO (laws_FnBest.l0 k y0 y1 y2 y3 y4) (laws_FnBest.l0 (k + 1) y0 y1 y2 y3 y4)) ∧ (∀ y0 y1 y2 y3 y4 y5, LeO (laws_FnBest.j1 k y0 y1 y2 y3 y4 y5) (laws_FnBest.j1 (k + 1) y0 y1 y2 y3 y4 y5)) ∧ (∀ y0 y1 y2 y3 y4 y5, LeO (laws_FnBest.j2 k y0 y1 y2 y3 y4 y5) (laws_FnBest.j2 (k + 1) y0 y1 y2 y3 y4 y5))
  | 0 => ⟨fun _ _ _ _ _ r h => by simp [laws_FnBest.l0] at h, fun _ _ _ _ _ _ r h => by simp [laws_FnBest.j1] at h, fun _ _ _ _ _ _ r h => by simp [laws_FnBest.j2] at h⟩
  | k + 1 => by
    obtain ⟨ih0, ih1, ih2⟩ := laws_FnBest.mono_l k
    refine ⟨?_, ?_, ?_⟩
    · intro y0 y1 y2 y3 y4
      unfold laws_FnBest.l0
      repeat' first
      | (with_reducible exact ih0 _ _ _ _ _)
      | (with_reducible exact ih1 _ _ _ _ _ _)
      | (with_reducible exact ih2 _ _ _ _ _ _)
      | (with_reducible exact impl_Before.mono _ _ _ _ _ _ _ _ _ _ _ _ _ _ _ _ _ _ _ _ _ _ _ _ _ _ _ _ _)
      | (with_reducible exact impl_BestOf.mono _ _ _)
      | (with_reducible exact laws_within.mono _ _ _)
      | (with_reducible exact spec_BestOf.mono _ _ _)
      | (with_reducible exact spec_DrawBestOf.mono _ _)
      | (with_reducible exact spec_TasksOk.mono _ _)
      | (with_reducible exact LeO.refl _)
      | (with_reducible exact LeO.none _)
      | (with_reducible refine LeO.ite ?_ ?_)
      | (with_reducible refine LeO.bind ?_ (fun _ => ?_))
      | exact ih0 _ _ _ _ _
      | exact ih1 _ _ _ _ _ _
      | exact ih2 _ _ _ _ _ _
      | exact impl_Before.mono _ _ _ _ _ _ _ _ _ _ _ _ _ _ _ _ _ _ _ _ _ _ _ _ _ _ _ _ _
      | exact impl_BestOf.mono _ _ _
      | exact laws_within.mono _ _ _
      | exact spec_BestOf.mono _ _ _
      | exact spec_DrawBestOf.mono _ _
      | exact spec_TasksOk.mono _ _
      | exact LeO.none _
      | refine LeO.ite ?_ ?_
      | refine LeO.bind ?_ (fun _ => ?_)
    · intro y0 y1 y2 y3 y4 y5
      unfold laws_FnBest.j1
      repeat' first
      | (with_reducible exact ih0 _ _ _ _ _)
      | (with_reducible exact ih1 _ _ _ _ _ _)
      | (with_reducible exact ih2 _ _ _ _ _ _)
      | (with_reducible exact impl_Before.mono _ _ _ _ _ _ _ _ _ _ _ _ _ _ _ _ _ _ _ _ _ _ _ _ _ _ _ _ _)
      | (with_reducible exact impl_BestOf.mono _ _ _)
      | (with_reducible exact laws_within.mono _ _ _)
      | (with_reducible exact spec_BestOf.mono _ _ _)
      | (with_reducible exact spec_DrawBestOf.mono _ _)
      | (with_reducible exact spec_TasksOk.mono _ _)
      | (with_reducible exact LeO.refl _)
      | (with_reducible exact LeO.none _)
      | (with_reducible refine LeO.ite ?_ ?_)
      | (with_reducible refine LeO.bind ?_ (fun _ => ?_))
      | exact ih0 _ _ _ _ _
      | exact ih1 _ _ _ _ _ _
      | exact ih2 _ _ _ _ _ _
      | exact impl_Before.mono _ _ _ _ _ _ _ _ _ _ _ _ _ _ _ _ _ _ _ _ _ _ _ _ _ _ _ _ _
      | exact impl_BestOf.mono _ _ _
      | exact laws_within.mono _ _ _
      | exact spec_BestOf.mono _ _ _
      | exact spec_DrawBestOf.mono _ _
      | exact spec_TasksOk.mono _ _
      | exact LeO.none _
      | refine LeO.ite ?_ ?_
      | refine LeO.bind ?_ (fun _ => ?_)
    intro y0 y1 y2 y3 y4 y5
    unfold laws_FnBest.j2
    repeat' first
    | (with_reducible exact ih0 _ _ _ _ _)
    | (with_reducible exact ih1 _ _ _ _ _ _)
    | (with_reducible exact ih2 _ _ _ _ _ _)
    | (with_reducible exact impl_Before.mono _ _ _ _ _ _ _ _ _ _ _ _ _ _ _ _ _ _ _ _ _ _ _ _ _ _ _ _ _)
    | (with_reducible exact impl_BestOf.mono _ _ _)
    | (with_reducible exact laws_within.mono _ _ _)
    | (with_reducible exact spec_BestOf.mono _ _ _)
    | (with_reducible exact spec_DrawBestOf.mono _ _)
    | (with_reducible exact spec_TasksOk.mono _ _)
    | (with_reducible exact LeO.refl _)
    | (with_reducible exact LeO.none _)
    | (with_reducible refine LeO.ite ?_ ?_)
    | (with_reducible refine LeO.bind ?_ (fun _ => ?_))
    | exact ih0 _ _ _ _ _
    | exact ih1 _ _ _ _ _ _
    | exact ih2 _ _ _ _ _ _
    | exact impl_Before.mono _ _ _ _ _ _ _ _ _ _ _ _ _ _ _ _ _ _ _ _ _ _ _ _ _ _ _ _ _
    | exact impl_BestOf.mono _ _ _
    | exact laws_within.mono _ _ _
    | exact spec_BestOf.mono _ _ _
    | exact spec_DrawBestOf.mono _ _
    | exact spec_TasksOk.mono _ _
    | exact LeO.none _
    | refine LeO.ite ?_ ?_
    | refine LeO.bind ?_ (fun _ => ?_)
theorem laws_FnBest.mono : ∀ a0 k, LeO (laws_FnBest.f k a0) (laws_FnBest.f (k + 1) a0) := by
  intro a0 k
  obtain ⟨ih0, ih1, ih2⟩ := laws_FnBest.mono_l k
  unfold laws_FnBest.f
  repeat' first
      | (with_reducible exact ih0 _ _ _ _ _)
      | (with_reducible exact ih1 _ _ _ _ _ _)
      | (with_reducible exact ih2 _ _ _ _ _ _)
      | (with_reducible exact impl_Before.mono _ _ _ _ _ _ _ _ _ _ _ _ _ _ _ _ _ _ _ _ _ _ _ _ _ _ _ _ _)
      | (with_reducible exact impl_BestOf.mono _ _ _)
      | (with_reducible exact laws_within.mono _ _ _)
      | (with_reducible exact spec_BestOf.mono _ _ _)
      | (with_reducible exact spec_DrawBestOf.mono _ _)
      | (with_reducible exact spec_TasksOk.mono _ _)
      | (with_reducible exact LeO.refl _)
      | (with_reducible exact LeO.none _)
      | (with_reducible refine LeO.ite ?_ ?_)
      | (with_reducible refine LeO.bind ?_ (fun _ => ?_))
      | exact ih0 _ _ _ _ _
      | exact ih1 _ _ _ _ _ _
      | exact ih2 _ _ _ _ _ _
      | exact impl_Before.mono _ _ _ _ _ _ _ _ _ _ _ _ _ _ _ _ _ _ _ _ _ _ _ _ _ _ _ _ _
      | exact impl_BestOf.mono _ _ _
      | exact laws_within.mono _ _ _
      | exact spec_BestOf.mono _ _ _
      | exact spec_DrawBestOf.mono _ _
      | exact spec_TasksOk.mono _ _
      | exact LeO.none _
      | refine LeO.ite ?_ ?_
      | refine LeO.bind ?_ (fun _ => ?_)
def laws_FnBest.T12 : Bool × List (List Nat × List Nat) := (true, [([], []), ([0], [0]), ([1], [1]), ([2], [2]), ([3, 2], [2, 3]), ([4, 2, 2], [2, 4]), ([5], [5]), ([5], [5]), ([6, 7, 5], [5, 6, 7]), ([8, 5], [5, 8]), ([5], [5]), ([5], [5]), ([10, 11, 5], [5, 10, 11]), ([12, 5], [5, 12]), ([9, 13, 5, 5], [5, 9, 13]), ([5, 14, 2], [2, 5, 14]), ([2, 15], [2, 15])])
def laws_FnBest.B12 : List Nat := [0, 1, 3, 7, 15, 31, 63, 63, 255, 511, 63, 63, 3135, 7231, 16383, 32767, 65535]
theorem laws_FnBest.tab12 : rtab .any (opsOf Try.f11 12) = laws_FnBest.T12 := by kernel_rfl
theorem laws_FnBest.bits12 : waitsOk laws_FnBest.T12.2 laws_FnBest.B12 = true := by kernel_rfl
set_option maxHeartbeats 8000000 in
set_option maxRecDepth 100000 in
theorem laws_FnBest.calls (k : Nat) (A0 : Option Addr) (c0 : Nat) (l0 : List Int) (r : Bool) (w : World) (hr0 : Kd.C (Kd.int .u8) w A0 l0.length l0) (hc0 : l0.length ≤ c0) (hrt : r = true) (h : laws_FnBest.f k l0 = some r) :
    Calls Try.prog 11 #[.slice A0 l0.length c0] w fun e w' => e = .returned (.bool r) ∧ Below w.heap.size w w' := by
  have hu27 := Try.underlying27
  have HR0 := Aside0.mk hr0
  have HC0 := Aside0.mk hc0
  clear hr0 hc0
  have HB := aM (Below.refl w.heap.size w)
  have HRT := Aside0.mk hrt
  clear hrt
  have H : ((laws_big.f l0).bind fun t101 => (if t101 = true then (some true) else ((spec_DrawBestOf.f k l0).bind fun bt102 => ((impl_BestOf.f k bt102.1 bt102.2).bind fun t108 => ((spec_BestOf.f k bt102.1 bt102.2).bind fun t109 => (if t108 = t109 then ((impl_TaskAt.f bt102.1 t108).bind fun t110 => (laws_FnBest.l0 k bt102.1 bt102.2 t108 t110 0)) else (some false))))))) = some r := h
  clear h
  replace H := Option.bind_eq_some_iff.mp H
  obtain ⟨t101, A20, H⟩ := H
  replace H : (if t101 = true then (some true) else ((spec_DrawBestOf.f k l0).bind fun bt102 => ((impl_BestOf.f k bt102.1 bt102.2).bind fun t108 => ((spec_BestOf.f k bt102.1 bt102.2).bind fun t109 => (if t108 = t109 then ((impl_TaskAt.f bt102.1 t108).bind fun t110 => (laws_FnBest.l0 k bt102.1 bt102.2 t108 t110 0)) else (some false)))))) = some r := H
  have A2 := Aside0.mk A20
  clear A20
  by_cases c3 : t101 = true
  · subst c3
    have H1 : (some true) = some r := by rw [if_pos rfl] at H; exact H
    clear H
    have H := H1
    clear H1
    obtain rfl := Option.some.inj H
    go_enter Try.func11, Try.ntmps11
    go_wp2_with (first | ((with_reducible refine gate_callee (f := 12) rfl ?_); refine gL (some 10) Try.func12 #[.slice A0 l0.length c0] ?_; (with_reducible refine (laws_big.calls _ _ l0 true _ ?side1 ?side2 A2.out).mono ?_); (case side1 => repeat (first | exact HR0.out | (with_reducible refine Kd.C_alloc ?_ _) | (with_reducible refine Kd.C_drewN ?_ _) | (with_reducible refine Kd.C_drew ?_))); (case side2 => exact HC0.out); rintro e w' ⟨rfl, ⟨nd, rfl⟩⟩; refine ⟨_, rfl, ?_⟩))
    all_goals go_ret
    all_goals exact ⟨by first | rfl | (simp <;> rfl) | (simp [*] <;> rfl), bq HB⟩
  replace c3 := Bool.eq_false_iff.mpr c3
  subst c3
  have H1 : ((spec_DrawBestOf.f k l0).bind fun bt102 => ((impl_BestOf.f k bt102.1 bt102.2).bind fun t108 => ((spec_BestOf.f k bt102.1 bt102.2).bind fun t109 => (if t108 = t109 then ((impl_TaskAt.f bt102.1 t108).bind fun t110 => (laws_FnBest.l0 k bt102.1 bt102.2 t108 t110 0)) else (some false))))) = some r := by rw [if_neg (show ¬ (false = true) by decide)] at H; exact H
  clear H
  have H := H1
  clear H1
  replace H := Option.bind_eq_some_iff.mp H
  obtain ⟨⟨t102, t103⟩, A40, H⟩ := H
  replace H : ((impl_BestOf.f k t102 t103).bind fun t108 => ((spec_BestOf.f k t102 t103).bind fun t109 => (if t108 = t109 then ((impl_TaskAt.f t102 t108).bind fun t110 => (laws_FnBest.l0 k t102 t103 t108 t110 0)) else (some false)))) = some r := H
  have A4 := Aside0.mk A40
  clear A40
  replace H := Option.bind_eq_some_iff.mp H
  obtain ⟨t108, A50, H⟩ := H
  replace H : ((spec_BestOf.f k t102 t103).bind fun t109 => (if t108 = t109 then ((impl_TaskAt.f t102 t108).bind fun t110 => (laws_FnBest.l0 k t102 t103 t108 t110 0)) else (some false))) = some r := H
  have A5 := Aside0.mk A50
  clear A50
  replace H := Option.bind_eq_some_iff.mp H
  obtain ⟨t109, A60, H⟩ := H
  replace H : (if t108 = t109 then ((impl_TaskAt.f t102 t108).bind fun t110 => (laws_FnBest.l0 k t102 t103 t108 t110 0)) else (some false)) = some r := H
  have A6 := Aside0.mk A60
  clear A60
  by_cases c7 : t108 = t109
  · rw [if_pos c7] at H
    have c7b0 : (t108 == t109) = true := beq_iff_eq.mpr c7
    have c7b1 : (t108 != t109) = false := bne_eq_false_iff_eq.mpr c7
    clear c7
    replace H := Option.bind_eq_some_iff.mp H
    obtain ⟨t110, A80, H⟩ := H
    replace H : (laws_FnBest.l0 k t102 t103 t108 t110 0) = some r := H
    have A8 := Aside0.mk A80
    clear A80
    have H' := Aside0.mk H
    clear H
    go_enter Try.func11, Try.ntmps11
    go_wp2_with (first | ((with_reducible refine gate_callee (f := 12) rfl ?_); refine gL (some 10) Try.func12 #[.slice A0 l0.length c0] ?_; (with_reducible refine (laws_big.calls _ _ l0 false _ ?side1 ?side2 A2.out).mono ?_); (case side1 => repeat (first | exact HR0.out | (with_reducible refine Kd.C_alloc ?_ _) | (with_reducible refine Kd.C_drewN ?_ _) | (with_reducible refine Kd.C_drew ?_))); (case side2 => exact HC0.out); rintro e w' ⟨rfl, ⟨nd, rfl⟩⟩; refine ⟨_, rfl, ?_⟩) | ((with_reducible refine gate_callee (f := 60) rfl ?_); refine gL (some 13) Try.func60 #[.slice A0 l0.length c0] ?_; (with_reducible refine (spec_DrawBestOf.calls k _ _ l0 t102 t103 _ ?side1 ?side2 A4.out).mono ?_); (case side1 => repeat (first | exact HR0.out | (with_reducible refine Kd.C_alloc ?_ _) | (with_reducible refine Kd.C_drewN ?_ _) | (with_reducible refine Kd.C_drew ?_))); (case side2 => exact HC0.out); rintro e w9 ⟨v104, v106, rfl, ho0, ho1, hb⟩; refine ⟨_, rfl, ?_⟩; have n0_ := aM (Kd.R_lower ho0 (below_size (bq HB))); have n1_ := aM (Kd.R_lower ho1 (below_size (bq HB))); have n2_ := aM (below_step (bq HB) hb); clear HB; have HO105 := n0_; have HO107 := n1_; have HB := n2_; clear n0_ n1_ n2_; (try clear hb); (try clear hb2); (try clear hk); (try clear hi); (try clear ho0); (try clear ho1); obtain ⟨Ao10, co10, eo10⟩ := Kd.R_slice HO105.out; subst eo10; obtain ⟨Ao11, co11, eo11⟩ := Kd.R_slice HO107.out; subst eo11) | ((with_reducible refine gate_callee (f := 61) rfl ?_); refine gL (some 18) Try.func61 #[.slice Ao10 t102.length co10, .slice Ao11 t103.length co11] ?_; (with_reducible refine (impl_BestOf.calls k _ _ t102 _ _ t103 t108 _ ?side1 ?side2 ?side3 ?side4 A5.out).mono ?_); (case side1 => repeat (first | exact (Kd.R_reads' HO105.out).2.2 | (with_reducible refine Kd.C_alloc ?_ _) | (with_reducible refine Kd.C_drewN ?_ _) | (with_reducible refine Kd.C_drew ?_))); (case side2 => exact (Kd.R_reads' HO105.out).2.1); (case side3 => repeat (first | exact (Kd.R_reads' HO107.out).2.2 | (with_reducible refine Kd.C_alloc ?_ _) | (with_reducible refine Kd.C_drewN ?_ _) | (with_reducible refine Kd.C_drew ?_))); (case side4 => exact (Kd.R_reads' HO107.out).2.1); rintro e w12 ⟨rfl, hb⟩; refine ⟨_, rfl, ?_⟩; have n0_ := aM (Kd.R_below (rq HO105) hb); have n1_ := aM (Kd.R_below (rq HO107) hb); have n2_ := aM (below_step (bq HB) hb); clear HO105 HO107 HB; have HO105 := n0_; have HO107 := n1_; have HB := n2_; clear n0_ n1_ n2_; (try clear hb); (try clear hb2); (try clear hk); (try clear hi)) | ((with_reducible refine gate_callee (f := 62) rfl ?_); refine gL (some 22) Try.func62 #[.slice Ao10 t102.length co10, .slice Ao11 t103.length co11] ?_; (with_reducible refine (spec_BestOf.calls k _ _ t102 _ _ t103 t109 _ ?side1 ?side2 ?side3 ?side4 A6.out).mono ?_); (case side1 => repeat (first | exact (Kd.R_reads' HO105.out).2.2 | (with_reducible refine Kd.C_alloc ?_ _) | (with_reducible refine Kd.C_drewN ?_ _) | (with_reducible refine Kd.C_drew ?_))); (case side2 => exact (Kd.R_reads' HO105.out).2.1); (case side3 => repeat (first | exact (Kd.R_reads' HO107.out).2.2 | (with_reducible refine Kd.C_alloc ?_ _) | (with_reducible refine Kd.C_drewN ?_ _) | (with_reducible refine Kd.C_drew ?_))); (case side4 => exact (Kd.R_reads' HO107.out).2.1); rintro e w13 ⟨rfl, hb⟩; refine ⟨_, rfl, ?_⟩; have n0_ := aM (Kd.R_below (rq HO105) hb); have n1_ := aM (Kd.R_below (rq HO107) hb); have n2_ := aM (below_step (bq HB) hb); clear HO105 HO107 HB; have HO105 := n0_; have HO107 := n1_; have HB := n2_; clear n0_ n1_ n2_; (try clear hb); (try clear hb2); (try clear hk); (try clear hi)) | ((with_reducible refine gate_callee (f := 59) rfl ?_); refine gL (some 26) Try.func59 #[.slice Ao10 t102.length co10, .int .i64 t108] ?_; (with_reducible refine (impl_TaskAt.calls _ _ t102 t108 t110 _ ?side1 ?side2 A8.out).mono ?_); (case side1 => repeat (first | exact (Kd.R_reads' HO105.out).2.2 | (with_reducible refine Kd.C_alloc ?_ _) | (with_reducible refine Kd.C_drewN ?_ _) | (with_reducible refine Kd.C_drew ?_))); (case side2 => exact (Kd.R_reads' HO105.out).2.1); rintro e w14 ⟨rfl, hb⟩; refine ⟨_, rfl, ?_⟩; have n0_ := aM (Kd.R_below (rq HO105) hb); have n1_ := aM (Kd.R_below (rq HO107) hb); have n2_ := aM (below_step (bq HB) hb); clear HO105 HO107 HB; have HO105 := n0_; have HO107 := n1_; have HB := n2_; clear n0_ n1_ n2_; (try clear hb); (try clear hb2); (try clear hk); (try clear hi)))
    go_loopg [7] k (fun kq v7 w' => ∃ (x7_1 : Int), v7 = .int .i64 x7_1 ∧ Aside0 (laws_FnBest.l0 kq t102 t103 t108 t110 x7_1 = some r) ∧ Aside0 (kq ≤ k) ∧ Aside0 (Kd.R k27 27 w' w.heap.size (fun _ => True) (.slice Ao10 t102.length co10) t102) ∧ Aside0 (Kd.R (Kd.int .i64) 3 w' w.heap.size (fun _ => True) (.slice Ao11 t103.length co11) t103) ∧ Aside0 (Below w.heap.size w w'))
    case atStart => exact ⟨(0), (by first | rfl | (simp; done) | (simp [*]; done)), H', ⟨Nat.le_refl _⟩, ⟨by (with_reducible repeat (first | apply Kd.R_alloc | apply Kd.R_drewN | apply Kd.R_drew)); exact HO105.out⟩, ⟨by (with_reducible repeat (first | apply Kd.R_alloc | apply Kd.R_drewN | apply Kd.R_drew)); exact HO107.out⟩, ⟨bq HB⟩⟩
    case round =>
      clear H'
      try clear c1
      try clear p2
      try clear c3
      try clear c5
      try clear c6
      try clear c7
      try clear c7b0
      try clear c7b1
      try clear c11
      try clear c12
      obtain ⟨x7_1, rfl, HA, HK1, HO_3, HO_4, HB⟩ := hrel
      cases gk with
      | zero => exact absurd HA.out (by simp [laws_FnBest.l0])
      | succ k1 =>
        have H := HA.out
        clear HA
        simp only [laws_FnBest.l0] at H
        have HC15 := Aside0.mk H
        clear H
        go_upto_region 9 with (fail)
        go_cut [34] (fun v34 wc => ∃ (kq : Nat) (x34_14 : Bool), v34 = .bool x34_14 ∧ Aside0 (laws_FnBest.j1 kq t102 t103 t108 t110 x7_1 x34_14 = some r) ∧ Aside0 (kq ≤ k1) ∧ Aside0 (Kd.R k27 27 wc w.heap.size (fun _ => True) (.slice Ao10 t102.length co10) t102) ∧ Aside0 (Kd.R (Kd.int .i64) 3 wc w.heap.size (fun _ => True) (.slice Ao11 t103.length co11) t103) ∧ Aside0 (Below w.heap.size w wc))
        case first =>
          have H := HC15.out
          clear HC15
          by_cases c16 : x7_1 < (t103.length : Int)
          · rw [if_pos c16] at H
            have c16b0 : decide (x7_1 < (t103.length : Int)) = true := decide_eq_true c16
            clear c16
            (first | rw [c16b0] | (simp only [i64_w, i32_w]; rw [c16b0]) | skip)
            replace H := Option.bind_eq_some_iff.mp H
            obtain ⟨t111, A170, H⟩ := H
            replace H : (laws_FnBest.j1 k1 t102 t103 t108 t110 x7_1 t111) = some r := H
            have A17 := Aside0.mk A170
            clear A170
            have H' := Aside0.mk H
            clear H
            go_wp2_with (first | (go_at_call 58; (with_reducible refine (spec_TasksOk.calls k1 _ _ t102 t111 _ ?side1 ?side2 A17.out).mono ?_); (case side1 => repeat (first | exact (Kd.R_reads' HO_3.out).2.2 | (with_reducible refine Kd.C_alloc ?_ _) | (with_reducible refine Kd.C_drewN ?_ _) | (with_reducible refine Kd.C_drew ?_))); (case side2 => exact (Kd.R_reads' HO_3.out).2.1); rintro e w18 ⟨rfl, hb⟩; have n0_ := aM (Kd.R_below (rq HO_3) hb); have n1_ := aM (Kd.R_below (rq HO_4) hb); have n2_ := aM (below_step (bq HB) hb); clear HO_3 HO_4 HB; have HO_3 := n0_; have HO_4 := n1_; have HB := n2_; clear n0_ n1_ n2_; (try clear hb); (try clear hb2); (try clear hk); (try clear hi)))
            go_meet
            case rel => exact ⟨_, (t111), (by first | rfl | (simp; done) | (simp [*]; done)), H', ⟨by have := HK1.out; first | omega | exact Nat.le_refl _⟩, ⟨by (with_reducible repeat (first | apply Kd.R_alloc | apply Kd.R_drewN | apply Kd.R_drew)); exact HO_3.out⟩, ⟨by (with_reducible repeat (first | apply Kd.R_alloc | apply Kd.R_drewN | apply Kd.R_drew)); exact HO_4.out⟩, ⟨bq HB⟩⟩
          rw [if_neg c16] at H
          have c16b0 : decide (x7_1 < (t103.length : Int)) = false := decide_eq_false c16
          clear c16
          (first | rw [c16b0] | (simp only [i64_w, i32_w]; rw [c16b0]) | skip)
          have H' := Aside0.mk H
          clear H
          go_wp2
          go_meet
          case rel => exact ⟨_, (false), (by first | rfl | (simp; done) | (simp [*]; done)), H', ⟨by have := HK1.out; first | omega | exact Nat.le_refl _⟩, ⟨by (with_reducible repeat (first | apply Kd.R_alloc | apply Kd.R_drewN | apply Kd.R_drew)); exact HO_3.out⟩, ⟨by (with_reducible repeat (first | apply Kd.R_alloc | apply Kd.R_drewN | apply Kd.R_drew)); exact HO_4.out⟩, ⟨bq HB⟩⟩
        case rest =>
          clear HC15
          try clear c1
          try clear p2
          try clear c3
          try clear c5
          try clear c6
          try clear c7
          try clear c7b0
          try clear c7b1
          try clear c11
          try clear c12
          try clear c16
          try clear c16b0
          try clear p2
          obtain ⟨kq, x34_14, rfl, HA, HJ14, HO_3, HO_4, HB⟩ := hcut
          cases kq with
          | zero => exact absurd HA.out (by simp [laws_FnBest.j1])
          | succ kj14 =>
            have H := HA.out
            clear HA
            simp only [laws_FnBest.j1] at H
            by_cases c19 : x34_14 = true
            · subst c19
              have H1 : (if 0 ≤ x7_1 then (if x7_1 < (t103.length : Int) then ((impl_TaskAt.f t102 (rd t103 x7_1)).bind fun t114 => (if t114 ≥ 0 then (if t110 < 0 then (laws_FnBest.j2 kj14 t102 t103 t108 t110 x7_1 true) else (if 0 ≤ t114 then (if t114 < (t102.length : Int) then (if 0 ≤ t110 then (if t110 < (t102.length : Int) then ((impl_Before.f kj14 ((rd_T27 t102 t114).f0) ((rd_T27 t102 t114).f1) ((rd_T27 t102 t114).f2) ((rd_T27 t102 t114).f3) ((rd_T27 t102 t114).f4) ((rd_T27 t102 t114).f5) ((rd_T27 t102 t114).f6) ((rd_T27 t102 t114).f7) ((rd_T27 t102 t114).f8) ((rd_T27 t102 t114).f9) ((rd_T27 t102 t114).f10) ((rd_T27 t102 t114).f11) ((rd_T27 t102 t114).f12) ((rd_T27 t102 t114).f13) ((rd_T27 t102 t110).f0) ((rd_T27 t102 t110).f1) ((rd_T27 t102 t110).f2) ((rd_T27 t102 t110).f3) ((rd_T27 t102 t110).f4) ((rd_T27 t102 t110).f5) ((rd_T27 t102 t110).f6) ((rd_T27 t102 t110).f7) ((rd_T27 t102 t110).f8) ((rd_T27 t102 t110).f9) ((rd_T27 t102 t110).f10) ((rd_T27 t102 t110).f11) ((rd_T27 t102 t110).f12) ((rd_T27 t102 t110).f13)).bind fun t117 => (laws_FnBest.j2 kj14 t102 t103 t108 t110 x7_1 t117)) else (none)) else (none)) else (none)) else (none))) else (laws_FnBest.j2 kj14 t102 t103 t108 t110 x7_1 false))) else (none)) else (none)) = some r := by rw [if_pos rfl] at H; exact H
              clear H
              have H := H1
              clear H1
              by_cases c20 : 0 ≤ x7_1
              · rw [if_pos c20] at H
                have c20b0 : decide (0 ≤ x7_1) = true := decide_eq_true c20
                clear c20
                by_cases c21 : x7_1 < (t103.length : Int)
                · rw [if_pos c21] at H
                  have c21b0 : decide (x7_1 < (t103.length : Int)) = true := decide_eq_true c21
                  clear c21
                  replace H := Option.bind_eq_some_iff.mp H
                  obtain ⟨t114, A220, H⟩ := H
                  replace H : (if t114 ≥ 0 then (if t110 < 0 then (laws_FnBest.j2 kj14 t102 t103 t108 t110 x7_1 true) else (if 0 ≤ t114 then (if t114 < (t102.length : Int) then (if 0 ≤ t110 then (if t110 < (t102.length : Int) then ((impl_Before.f kj14 ((rd_T27 t102 t114).f0) ((rd_T27 t102 t114).f1) ((rd_T27 t102 t114).f2) ((rd_T27 t102 t114).f3) ((rd_T27 t102 t114).f4) ((rd_T27 t102 t114).f5) ((rd_T27 t102 t114).f6) ((rd_T27 t102 t114).f7) ((rd_T27 t102 t114).f8) ((rd_T27 t102 t114).f9) ((rd_T27 t102 t114).f10) ((rd_T27 t102 t114).f11) ((rd_T27 t102 t114).f12) ((rd_T27 t102 t114).f13) ((rd_T27 t102 t110).f0) ((rd_T27 t102 t110).f1) ((rd_T27 t102 t110).f2) ((rd_T27 t102 t110).f3) ((rd_T27 t102 t110).f4) ((rd_T27 t102 t110).f5) ((rd_T27 t102 t110).f6) ((rd_T27 t102 t110).f7) ((rd_T27 t102 t110).f8) ((rd_T27 t102 t110).f9) ((rd_T27 t102 t110).f10) ((rd_T27 t102 t110).f11) ((rd_T27 t102 t110).f12) ((rd_T27 t102 t110).f13)).bind fun t117 => (laws_FnBest.j2 kj14 t102 t103 t108 t110 x7_1 t117)) else (none)) else (none)) else (none)) else (none))) else (laws_FnBest.j2 kj14 t102 t103 t108 t110 x7_1 false)) = some r := H
                  have A22 := Aside0.mk A220
                  clear A220
                  have HC23 := Aside0.mk H
                  clear H
                  have p113 : 0 ≤ (x7_1 : Int) := of_decide_eq_true (by first | (with_reducible assumption) | assumption)
                  have q113 : x7_1 < (t103.length : Int) := of_decide_eq_true (by first | (with_reducible assumption) | assumption)
                  obtain ⟨ad113, e113, hx113_0⟩ := Kd.at_int (Kd.R_reads' HO_4.out).2.2 x7_1 p113 q113
                  cases e113
                  replace p113 := eq_true p113
                  replace q113 := eq_true q113
                  go_upto_region 12 with (first | ((with_reducible refine gate_callee (f := 59) rfl ?_); refine gL (some 42) Try.func59 #[.slice Ao10 t102.length co10, .int .i64 (rd t103 x7_1)] ?_; (with_reducible refine (impl_TaskAt.calls _ _ t102 (rd t103 x7_1) t114 _ ?side1 ?side2 A22.out).mono ?_); (case side1 => repeat (first | exact (Kd.R_reads' HO_3.out).2.2 | (with_reducible refine Kd.C_alloc ?_ _) | (with_reducible refine Kd.C_drewN ?_ _) | (with_reducible refine Kd.C_drew ?_))); (case side2 => exact (Kd.R_reads' HO_3.out).2.1); rintro e w24 ⟨rfl, hb⟩; refine ⟨_, rfl, ?_⟩; have n0_ := aM (Kd.R_below (rq HO_3) hb); have n1_ := aM (Kd.R_below (rq HO_4) hb); have n2_ := aM (below_step (bq HB) hb); clear HO_3 HO_4 HB; have HO_3 := n0_; have HO_4 := n1_; have HB := n2_; clear n0_ n1_ n2_; (try clear hb); (try clear hb2); (try clear hk); (try clear hi)))
                  (try simp only [Act.put, tA, tB, tC])
                  go_cut [59] (fun v59 wc => ∃ (kq : Nat) (x59_22 : Bool), v59 = .bool x59_22 ∧ Aside0 (laws_FnBest.j2 kq t102 t103 t108 t110 x7_1 x59_22 = some r) ∧ Aside0 (kq ≤ kj14) ∧ Aside0 (Kd.R k27 27 wc w.heap.size (fun _ => True) (.slice Ao10 t102.length co10) t102) ∧ Aside0 (Kd.R (Kd.int .i64) 3 wc w.heap.size (fun _ => True) (.slice (some ad113) t103.length co11) t103) ∧ Aside0 (Below w.heap.size w wc))
                  case first =>
                    have H := HC23.out
                    clear HC23
                    by_cases c25 : t114 ≥ 0
                    · rw [if_pos c25] at H
                      have c25b0 : decide (0 ≤ t114) = true := decide_eq_true c25
                      clear c25
                      (first | rw [c25b0] | (simp only [i64_w, i32_w]; rw [c25b0]) | skip)
                      by_cases c26 : t110 < 0
                      · rw [if_pos c26] at H
                        have c26b0 : decide (t110 < 0) = true := decide_eq_true c26
                        clear c26
                        have H' := Aside0.mk H
                        clear H
                        try go_wp2
                        have n0_ := aM (Kd.R_drew HO_3.out)
                        have n1_ := aM (Kd.R_drew HO_4.out)
                        have n2_ := aM (below_drew1 HB.out)
                        clear HO_3 HO_4 HB
                        have HO_3 := n0_
                        have HO_4 := n1_
                        have HB := n2_
                        clear n0_ n1_ n2_
                        refine start_ (n := 17) (S := fun w' => True) (ds := []) #[nn,nn,nn,nn,nn,nn,nn,nn,nn,nn,nn,nn,nn,nn,nn,nn,nn] (by kernel_rfl) rfl rfl trivial (fun hHeld => ?_); refine with_tabW laws_FnBest.tab12 laws_FnBest.bits12 (fun HT_ HW_ => ?_)
                        generalize w24.drew = w27 at HO_3 HO_4 HB hHeld ⊢
                        refine pQ (i := 0) (N := some 43) #[yy,nn,nn,nn,nn,nn,nn,nn,nn,nn,nn,nn,nn,nn,nn,nn,nn] (any_of HT_.out (by kernel_rfl)) ?_
                        refine pQ (i := 1) (N := some 44) #[yy,yy,nn,nn,nn,nn,nn,nn,nn,nn,nn,nn,nn,nn,nn,nn,nn] (any_of HT_.out (by kernel_rfl)) ?_
                        refine pQ (i := 2) (N := some 45) #[yy,yy,yy,nn,nn,nn,nn,nn,nn,nn,nn,nn,nn,nn,nn,nn,nn] (any_of HT_.out (by kernel_rfl)) ?_
                        refine pQ (i := 3) (N := some 46) #[yy,yy,yy,yy,nn,nn,nn,nn,nn,nn,nn,nn,nn,nn,nn,nn,nn] (any_of HT_.out (by kernel_rfl)) ?_
                        refine pQ (i := 4) (N := some 47) #[yy,yy,yy,yy,yy,nn,nn,nn,nn,nn,nn,nn,nn,nn,nn,nn,nn] (any_of HT_.out (by kernel_rfl)) ?_
                        refine pQ (i := 5) (N := some 48) #[yy,yy,yy,yy,yy,yy,nn,nn,nn,nn,nn,nn,nn,nn,nn,nn,nn] (any_of HT_.out (by kernel_rfl)) ?_
                        refine pure_ (i := 6) (N := some 49) (v := undef) (a' := ?_) #[yy,yy,yy,yy,yy,yy,yy,nn,nn,nn,nn,nn,nn,nn,nn,nn,nn] rfl rfl (any_of HT_.out (by kernel_rfl)) (fun _ _ _ h => h) (Or.inr ⟨by rfl, rfl⟩) ?_ ?_
                        rotate_left
                        · simp only [Act.put, tA, tB, tC, i64_w, i32_w]
                          rfl
                        refine pure_ (i := 7) (N := some 50) (v := undef) (a' := ?_) #[yy,yy,yy,yy,yy,yy,yy,yy,nn,nn,nn,nn,nn,nn,nn,nn,nn] rfl rfl (any_of HT_.out (by kernel_rfl)) (fun _ _ _ h => h) (Or.inr ⟨by rfl, rfl⟩) ?_ ?_
                        rotate_left
                        · simp only [Act.put, tA, tB, tC, i64_w, i32_w]
                          rfl
                        refine pure_ (i := 8) (N := some 51) (v := undef) (a' := ?_) #[yy,yy,yy,yy,yy,yy,yy,yy,yy,nn,nn,nn,nn,nn,nn,nn,nn] rfl rfl (any_of HT_.out (by kernel_rfl)) (fun _ _ _ h => h) (Or.inr ⟨by rfl, rfl⟩) ?_ ?_
                        rotate_left
                        · simp only [Act.put, tA, tB, tC, i64_w, i32_w]
                          rfl
                        refine pure_ (i := 9) (N := some 52) (v := undef) (a' := ?_) #[yy,yy,yy,yy,yy,yy,yy,yy,yy,yy,nn,nn,nn,nn,nn,nn,nn] rfl rfl (any_of HT_.out (by kernel_rfl)) (fun _ _ _ h => h) (Or.inr ⟨by rfl, rfl⟩) ?_ ?_
                        rotate_left
                        · simp only [Act.put, tA, tB, tC, i64_w, i32_w]
                          rfl
                        refine pure_ (i := 10) (N := some 53) (v := undef) (a' := ?_) #[yy,yy,yy,yy,yy,yy,yy,yy,yy,yy,yy,nn,nn,nn,nn,nn,nn] rfl rfl (any_of HT_.out (by kernel_rfl)) (fun _ _ _ h => h) (Or.inr ⟨by rfl, rfl⟩) ?_ ?_
                        rotate_left
                        · simp only [Act.put, tA, tB, tC, i64_w, i32_w]
                          rfl
                        refine pure_ (i := 11) (N := some 54) (v := undef) (a' := ?_) #[yy,yy,yy,yy,yy,yy,yy,yy,yy,yy,yy,yy,nn,nn,nn,nn,nn] rfl rfl (any_of HT_.out (by kernel_rfl)) (fun _ _ _ h => h) (Or.inr ⟨by rfl, rfl⟩) ?_ ?_
                        rotate_left
                        · simp only [Act.put, tA, tB, tC, i64_w, i32_w]
                          rfl
                        refine pure_ (i := 12) (N := some 55) (v := undef) (a' := ?_) #[yy,yy,yy,yy,yy,yy,yy,yy,yy,yy,yy,yy,yy,nn,nn,nn,nn] rfl rfl (any_of HT_.out (by kernel_rfl)) (fun _ _ _ h => h) (Or.inr ⟨by rfl, rfl⟩) ?_ ?_
                        rotate_left
                        · simp only [Act.put, tA, tB, tC, i64_w, i32_w]
                          rfl
                        refine pure_ (i := 13) (N := some 56) (v := undef) (a' := ?_) #[yy,yy,yy,yy,yy,yy,yy,yy,yy,yy,yy,yy,yy,yy,nn,nn,nn] rfl rfl (any_of HT_.out (by kernel_rfl)) (fun _ _ _ h => h) (Or.inr ⟨by rfl, rfl⟩) ?_ ?_
                        rotate_left
                        · simp only [Act.put, tA, tB, tC, i64_w, i32_w]
                          rfl
                        refine pure_ (i := 14) (N := some 57) (v := undef) (a' := ?_) #[yy,yy,yy,yy,yy,yy,yy,yy,yy,yy,yy,yy,yy,yy,yy,nn,nn] rfl rfl (any_of HT_.out (by kernel_rfl)) (fun _ _ _ h => h) (Or.inr ⟨by rfl, rfl⟩) ?_ ?_
                        rotate_left
                        · simp only [Act.put, tA, tB, tC, i64_w, i32_w]
                          rfl
                        refine pQ (i := 15) (N := some 58) #[yy,yy,yy,yy,yy,yy,yy,yy,yy,yy,yy,yy,yy,yy,yy,yy,nn] (any_of HT_.out (by kernel_rfl)) ?_
                        refine pQ (i := 16) (N := some 59) #[yy,yy,yy,yy,yy,yy,yy,yy,yy,yy,yy,yy,yy,yy,yy,yy,yy] (any_of HT_.out (by kernel_rfl)) ?_
                        refine done_ (done_of HT_.out (by kernel_rfl)) ?_
                        try go_wp2
                        go_meet
                        case rel => exact ⟨_, (true), (by first | rfl | (simp; done) | (simp [*]; done)), H', ⟨by have := HK1.out; have := HJ14.out; first | omega | exact Nat.le_refl _⟩, ⟨by (with_reducible repeat (first | apply Kd.R_alloc | apply Kd.R_drewN | apply Kd.R_drew)); exact HO_3.out⟩, ⟨by (with_reducible repeat (first | apply Kd.R_alloc | apply Kd.R_drewN | apply Kd.R_drew)); exact HO_4.out⟩, ⟨bq HB⟩⟩
                      rw [if_neg c26] at H
                      have c26b0 : decide (t110 < 0) = false := decide_eq_false c26
                      clear c26
                      by_cases c28 : 0 ≤ t114
                      · rw [if_pos c28] at H
                        have c28b0 : decide (0 ≤ t114) = true := decide_eq_true c28
                        clear c28
                        by_cases c29 : t114 < (t102.length : Int)
                        · rw [if_pos c29] at H
                          have c29b0 : decide (t114 < (t102.length : Int)) = true := decide_eq_true c29
                          clear c29
                          by_cases c30 : 0 ≤ t110
                          · rw [if_pos c30] at H
                            have c30b0 : decide (0 ≤ t110) = true := decide_eq_true c30
                            clear c30
                            by_cases c31 : t110 < (t102.length : Int)
                            · rw [if_pos c31] at H
                              have c31b0 : decide (t110 < (t102.length : Int)) = true := decide_eq_true c31
                              clear c31
                              replace H := Option.bind_eq_some_iff.mp H
                              obtain ⟨t117, A320, H⟩ := H
                              replace H : (laws_FnBest.j2 kj14 t102 t103 t108 t110 x7_1 t117) = some r := H
                              have A32 := Aside0.mk A320
                              clear A320
                              have H' := Aside0.mk H
                              clear H
                              try go_wp2
                              have n0_ := aM (Kd.R_drew HO_3.out)
                              have n1_ := aM (Kd.R_drew HO_4.out)
                              have n2_ := aM (below_drew1 HB.out)
                              clear HO_3 HO_4 HB
                              have HO_3 := n0_
                              have HO_4 := n1_
                              have HB := n2_
                              clear n0_ n1_ n2_
                              have p115 : 0 ≤ (t114 : Int) := of_decide_eq_true (by first | (with_reducible assumption) | assumption)
                              have q115 : t114 < (t102.length : Int) := of_decide_eq_true (by first | (with_reducible assumption) | assumption)
                              obtain ⟨ad115, e115, hx115_0, hx115_1, hx115_2, hx115_3, hx115_4, hx115_5, hx115_6, hx115_7, hx115_8, hx115_9, hx115_10, hx115_11, hx115_12, hx115_13⟩ := at_T27 (Kd.R_reads' HO_3.out).2.2 t114 p115 q115
                              cases e115
                              replace p115 := eq_true p115
                              replace q115 := eq_true q115
                              have p116 : 0 ≤ (t110 : Int) := of_decide_eq_true (by first | (with_reducible assumption) | assumption)
                              have q116 : t110 < (t102.length : Int) := of_decide_eq_true (by first | (with_reducible assumption) | assumption)
                              obtain ⟨ad116, e116, hx116_0, hx116_1, hx116_2, hx116_3, hx116_4, hx116_5, hx116_6, hx116_7, hx116_8, hx116_9, hx116_10, hx116_11, hx116_12, hx116_13⟩ := at_T27 (Kd.R_reads' HO_3.out).2.2 t110 p116 q116
                              obtain rfl : ad115 = ad116 := (by injection e116)
                              replace p116 := eq_true p116
                              replace q116 := eq_true q116
                              refine start_ (n := 17) (S := fun w' => ca14t w' (ad115.add ((t114).toNat * 14)) (.int .i64 ((rd_T27 t102 t114).f0)) (.int .i64 ((rd_T27 t102 t114).f1)) (.int .i64 ((rd_T27 t102 t114).f2)) (.int .i64 ((rd_T27 t102 t114).f3)) (.bool ((rd_T27 t102 t114).f4)) (.int .i64 ((rd_T27 t102 t114).f5)) (.int .i64 ((rd_T27 t102 t114).f6)) (.int .i64 ((rd_T27 t102 t114).f7)) (.int .i64 ((rd_T27 t102 t114).f8)) (.int .i64 ((rd_T27 t102 t114).f9)) (.int .i64 ((rd_T27 t102 t114).f10)) (.int .i64 ((rd_T27 t102 t114).f11)) (.int .i64 ((rd_T27 t102 t114).f12)) (.int .i64 ((rd_T27 t102 t114).f13)) (ca14 w' (ad115.add ((t110).toNat * 14)) (.int .i64 ((rd_T27 t102 t110).f0)) (.int .i64 ((rd_T27 t102 t110).f1)) (.int .i64 ((rd_T27 t102 t110).f2)) (.int .i64 ((rd_T27 t102 t110).f3)) (.bool ((rd_T27 t102 t110).f4)) (.int .i64 ((rd_T27 t102 t110).f5)) (.int .i64 ((rd_T27 t102 t110).f6)) (.int .i64 ((rd_T27 t102 t110).f7)) (.int .i64 ((rd_T27 t102 t110).f8)) (.int .i64 ((rd_T27 t102 t110).f9)) (.int .i64 ((rd_T27 t102 t110).f10)) (.int .i64 ((rd_T27 t102 t110).f11)) (.int .i64 ((rd_T27 t102 t110).f12)) (.int .i64 ((rd_T27 t102 t110).f13)))) (ds := []) #[nn,nn,nn,nn,nn,nn,nn,nn,nn,nn,nn,nn,nn,nn,nn,nn,nn] (by kernel_rfl) rfl rfl ⟨hx115_0, hx115_1, hx115_2, hx115_3, hx115_4, hx115_5, hx115_6, hx115_7, hx115_8, hx115_9, hx115_10, hx115_11, hx115_12, hx115_13, hx116_0, hx116_1, hx116_2, hx116_3, hx116_4, hx116_5, hx116_6, hx116_7, hx116_8, hx116_9, hx116_10, hx116_11, hx116_12, hx116_13⟩ (fun hHeld => ?_); refine with_tabW laws_FnBest.tab12 laws_FnBest.bits12 (fun HT_ HW_ => ?_)
                              generalize w24.drew = w33 at HO_3 HO_4 HB hx115_0 hx115_1 hx115_10 hx115_11 hx115_12 hx115_13 hx115_2 hx115_3 hx115_4 hx115_5 hx115_6 hx115_7 hx115_8 hx115_9 hx116_0 hx116_1 hx116_10 hx116_11 hx116_12 hx116_13 hx116_2 hx116_3 hx116_4 hx116_5 hx116_6 hx116_7 hx116_8 hx116_9 hHeld ⊢
                              refine pQ (i := 0) (N := some 43) #[yy,nn,nn,nn,nn,nn,nn,nn,nn,nn,nn,nn,nn,nn,nn,nn,nn] (any_of HT_.out (by kernel_rfl)) ?_
                              refine pQ (i := 1) (N := some 44) #[yy,yy,nn,nn,nn,nn,nn,nn,nn,nn,nn,nn,nn,nn,nn,nn,nn] (any_of HT_.out (by kernel_rfl)) ?_
                              refine pQ (i := 2) (N := some 45) #[yy,yy,yy,nn,nn,nn,nn,nn,nn,nn,nn,nn,nn,nn,nn,nn,nn] (any_of HT_.out (by kernel_rfl)) ?_
                              refine pQ (i := 3) (N := some 46) #[yy,yy,yy,yy,nn,nn,nn,nn,nn,nn,nn,nn,nn,nn,nn,nn,nn] (any_of HT_.out (by kernel_rfl)) ?_
                              refine pQ (i := 4) (N := some 47) #[yy,yy,yy,yy,yy,nn,nn,nn,nn,nn,nn,nn,nn,nn,nn,nn,nn] (any_of HT_.out (by kernel_rfl)) ?_
                              refine pQ (i := 5) (N := some 48) #[yy,yy,yy,yy,yy,yy,nn,nn,nn,nn,nn,nn,nn,nn,nn,nn,nn] (any_of HT_.out (by kernel_rfl)) ?_
                              refine pQ (i := 6) (N := some 49) #[yy,yy,yy,yy,yy,yy,yy,nn,nn,nn,nn,nn,nn,nn,nn,nn,nn] (any_of HT_.out (by kernel_rfl)) ?_
                              refine pQ (i := 7) (N := some 50) #[yy,yy,yy,yy,yy,yy,yy,yy,nn,nn,nn,nn,nn,nn,nn,nn,nn] (any_of HT_.out (by kernel_rfl)) ?_
                              refine pQ (i := 8) (N := some 51) #[yy,yy,yy,yy,yy,yy,yy,yy,yy,nn,nn,nn,nn,nn,nn,nn,nn] (any_of HT_.out (by kernel_rfl)) ?_
                              refine pQ (i := 10) (N := some 53) #[yy,yy,yy,yy,yy,yy,yy,yy,yy,nn,yy,nn,nn,nn,nn,nn,nn] (any_of HT_.out (by kernel_rfl)) ?_
                              refine pQ (i := 11) (N := some 54) #[yy,yy,yy,yy,yy,yy,yy,yy,yy,nn,yy,yy,nn,nn,nn,nn,nn] (any_of HT_.out (by kernel_rfl)) ?_
                              refine pQ (i := 12) (N := some 55) #[yy,yy,yy,yy,yy,yy,yy,yy,yy,nn,yy,yy,yy,nn,nn,nn,nn] (any_of HT_.out (by kernel_rfl)) ?_
                              refine tQ (i := 9) (N := some 52) #[yy,yy,yy,yy,yy,yy,yy,yy,yy,yy,yy,yy,yy,nn,nn,nn,nn] (take_ofW HT_.out HW_.out (by kernel_rfl)) hHeld ?_
                              refine tQ (i := 13) (N := some 56) #[yy,yy,yy,yy,yy,yy,yy,yy,yy,yy,yy,yy,yy,yy,nn,nn,nn] (take_ofW HT_.out HW_.out (by kernel_rfl)) hHeld ?_
                              refine one_ (i := 14) (N := some 57) #[yy,yy,yy,yy,yy,yy,yy,yy,yy,yy,yy,yy,yy,yy,yy,nn,nn] rfl rfl (one_of HT_.out (by kernel_rfl)) (by decide) (fun K hK => ?_)
                              refine goes_ Try.func31 (by kernel_rfl) rfl #[.agg #[.int .i64 ((rd_T27 t102 t114).f0), .int .i64 ((rd_T27 t102 t114).f1), .int .i64 ((rd_T27 t102 t114).f2), .int .i64 ((rd_T27 t102 t114).f3), .bool ((rd_T27 t102 t114).f4), .int .i64 ((rd_T27 t102 t114).f5), .int .i64 ((rd_T27 t102 t114).f6), .int .i64 ((rd_T27 t102 t114).f7), .int .i64 ((rd_T27 t102 t114).f8), .int .i64 ((rd_T27 t102 t114).f9), .int .i64 ((rd_T27 t102 t114).f10), .int .i64 ((rd_T27 t102 t114).f11), .int .i64 ((rd_T27 t102 t114).f12), .int .i64 ((rd_T27 t102 t114).f13)], .agg #[.int .i64 ((rd_T27 t102 t110).f0), .int .i64 ((rd_T27 t102 t110).f1), .int .i64 ((rd_T27 t102 t110).f2), .int .i64 ((rd_T27 t102 t110).f3), .bool ((rd_T27 t102 t110).f4), .int .i64 ((rd_T27 t102 t110).f5), .int .i64 ((rd_T27 t102 t110).f6), .int .i64 ((rd_T27 t102 t110).f7), .int .i64 ((rd_T27 t102 t110).f8), .int .i64 ((rd_T27 t102 t110).f9), .int .i64 ((rd_T27 t102 t110).f10), .int .i64 ((rd_T27 t102 t110).f11), .int .i64 ((rd_T27 t102 t110).f12), .int .i64 ((rd_T27 t102 t110).f13)]] (by rfl) rfl rfl (by (try simp only [List.map_toArray, List.map_cons, List.map_nil]); first | done | rfl | (simp only [List.length_drop, List.length_take]; rfl)) ?_
                              with_reducible refine (impl_Before.calls kj14 ((rd_T27 t102 t114).f0) ((rd_T27 t102 t114).f1) ((rd_T27 t102 t114).f2) ((rd_T27 t102 t114).f3) ((rd_T27 t102 t114).f4) ((rd_T27 t102 t114).f5) ((rd_T27 t102 t114).f6) ((rd_T27 t102 t114).f7) ((rd_T27 t102 t114).f8) ((rd_T27 t102 t114).f9) ((rd_T27 t102 t114).f10) ((rd_T27 t102 t114).f11) ((rd_T27 t102 t114).f12) ((rd_T27 t102 t114).f13) ((rd_T27 t102 t110).f0) ((rd_T27 t102 t110).f1) ((rd_T27 t102 t110).f2) ((rd_T27 t102 t110).f3) ((rd_T27 t102 t110).f4) ((rd_T27 t102 t110).f5) ((rd_T27 t102 t110).f6) ((rd_T27 t102 t110).f7) ((rd_T27 t102 t110).f8) ((rd_T27 t102 t110).f9) ((rd_T27 t102 t110).f10) ((rd_T27 t102 t110).f11) ((rd_T27 t102 t110).f12) ((rd_T27 t102 t110).f13) t117 _ A32.out).mono ?_
                              rintro e w34 ⟨rfl, hb⟩
                              have HS0_ := (hb.cell (World.block_lt_of_cell? _ _ (hHeld.1))).trans (hHeld.1)
                              have HS1_ := (hb.cell (World.block_lt_of_cell? _ _ (hHeld.2.1))).trans (hHeld.2.1)
                              have HS2_ := (hb.cell (World.block_lt_of_cell? _ _ (hHeld.2.2.1))).trans (hHeld.2.2.1)
                              have HS3_ := (hb.cell (World.block_lt_of_cell? _ _ (hHeld.2.2.2.1))).trans (hHeld.2.2.2.1)
                              have HS4_ := (hb.cell (World.block_lt_of_cell? _ _ (hHeld.2.2.2.2.1))).trans (hHeld.2.2.2.2.1)
                              have HS5_ := (hb.cell (World.block_lt_of_cell? _ _ (hHeld.2.2.2.2.2.1))).trans (hHeld.2.2.2.2.2.1)
                              have HS6_ := (hb.cell (World.block_lt_of_cell? _ _ (hHeld.2.2.2.2.2.2.1))).trans (hHeld.2.2.2.2.2.2.1)
                              have HS7_ := (hb.cell (World.block_lt_of_cell? _ _ (hHeld.2.2.2.2.2.2.2.1))).trans (hHeld.2.2.2.2.2.2.2.1)
                              have HS8_ := (hb.cell (World.block_lt_of_cell? _ _ (hHeld.2.2.2.2.2.2.2.2.1))).trans (hHeld.2.2.2.2.2.2.2.2.1)
                              have HS9_ := (hb.cell (World.block_lt_of_cell? _ _ (hHeld.2.2.2.2.2.2.2.2.2.1))).trans (hHeld.2.2.2.2.2.2.2.2.2.1)
                              have HS10_ := (hb.cell (World.block_lt_of_cell? _ _ (hHeld.2.2.2.2.2.2.2.2.2.2.1))).trans (hHeld.2.2.2.2.2.2.2.2.2.2.1)
                              have HS11_ := (hb.cell (World.block_lt_of_cell? _ _ (hHeld.2.2.2.2.2.2.2.2.2.2.2.1))).trans (hHeld.2.2.2.2.2.2.2.2.2.2.2.1)
                              have HS12_ := (hb.cell (World.block_lt_of_cell? _ _ (hHeld.2.2.2.2.2.2.2.2.2.2.2.2.1))).trans (hHeld.2.2.2.2.2.2.2.2.2.2.2.2.1)
                              have HS13_ := (hb.cell (World.block_lt_of_cell? _ _ (hHeld.2.2.2.2.2.2.2.2.2.2.2.2.2.1))).trans (hHeld.2.2.2.2.2.2.2.2.2.2.2.2.2.1)
                              have HS14_ := (hb.cell (World.block_lt_of_cell? _ _ (hHeld.2.2.2.2.2.2.2.2.2.2.2.2.2.2.1))).trans (hHeld.2.2.2.2.2.2.2.2.2.2.2.2.2.2.1)
                              have HS15_ := (hb.cell (World.block_lt_of_cell? _ _ (hHeld.2.2.2.2.2.2.2.2.2.2.2.2.2.2.2.1))).trans (hHeld.2.2.2.2.2.2.2.2.2.2.2.2.2.2.2.1)
                              have HS16_ := (hb.cell (World.block_lt_of_cell? _ _ (hHeld.2.2.2.2.2.2.2.2.2.2.2.2.2.2.2.2.1))).trans (hHeld.2.2.2.2.2.2.2.2.2.2.2.2.2.2.2.2.1)
                              have HS17_ := (hb.cell (World.block_lt_of_cell? _ _ (hHeld.2.2.2.2.2.2.2.2.2.2.2.2.2.2.2.2.2.1))).trans (hHeld.2.2.2.2.2.2.2.2.2.2.2.2.2.2.2.2.2.1)
                              have HS18_ := (hb.cell (World.block_lt_of_cell? _ _ (hHeld.2.2.2.2.2.2.2.2.2.2.2.2.2.2.2.2.2.2.1))).trans (hHeld.2.2.2.2.2.2.2.2.2.2.2.2.2.2.2.2.2.2.1)
                              have HS19_ := (hb.cell (World.block_lt_of_cell? _ _ (hHeld.2.2.2.2.2.2.2.2.2.2.2.2.2.2.2.2.2.2.2.1))).trans (hHeld.2.2.2.2.2.2.2.2.2.2.2.2.2.2.2.2.2.2.2.1)
                              have HS20_ := (hb.cell (World.block_lt_of_cell? _ _ (hHeld.2.2.2.2.2.2.2.2.2.2.2.2.2.2.2.2.2.2.2.2.1))).trans (hHeld.2.2.2.2.2.2.2.2.2.2.2.2.2.2.2.2.2.2.2.2.1)
                              have HS21_ := (hb.cell (World.block_lt_of_cell? _ _ (hHeld.2.2.2.2.2.2.2.2.2.2.2.2.2.2.2.2.2.2.2.2.2.1))).trans (hHeld.2.2.2.2.2.2.2.2.2.2.2.2.2.2.2.2.2.2.2.2.2.1)
                              have HS22_ := (hb.cell (World.block_lt_of_cell? _ _ (hHeld.2.2.2.2.2.2.2.2.2.2.2.2.2.2.2.2.2.2.2.2.2.2.1))).trans (hHeld.2.2.2.2.2.2.2.2.2.2.2.2.2.2.2.2.2.2.2.2.2.2.1)
                              have HS23_ := (hb.cell (World.block_lt_of_cell? _ _ (hHeld.2.2.2.2.2.2.2.2.2.2.2.2.2.2.2.2.2.2.2.2.2.2.2.1))).trans (hHeld.2.2.2.2.2.2.2.2.2.2.2.2.2.2.2.2.2.2.2.2.2.2.2.1)
                              have HS24_ := (hb.cell (World.block_lt_of_cell? _ _ (hHeld.2.2.2.2.2.2.2.2.2.2.2.2.2.2.2.2.2.2.2.2.2.2.2.2.1))).trans (hHeld.2.2.2.2.2.2.2.2.2.2.2.2.2.2.2.2.2.2.2.2.2.2.2.2.1)
                              have HS25_ := (hb.cell (World.block_lt_of_cell? _ _ (hHeld.2.2.2.2.2.2.2.2.2.2.2.2.2.2.2.2.2.2.2.2.2.2.2.2.2.1))).trans (hHeld.2.2.2.2.2.2.2.2.2.2.2.2.2.2.2.2.2.2.2.2.2.2.2.2.2.1)
                              have HS26_ := (hb.cell (World.block_lt_of_cell? _ _ (hHeld.2.2.2.2.2.2.2.2.2.2.2.2.2.2.2.2.2.2.2.2.2.2.2.2.2.2.1))).trans (hHeld.2.2.2.2.2.2.2.2.2.2.2.2.2.2.2.2.2.2.2.2.2.2.2.2.2.2.1)
                              have HS27_ := (hb.cell (World.block_lt_of_cell? _ _ (hHeld.2.2.2.2.2.2.2.2.2.2.2.2.2.2.2.2.2.2.2.2.2.2.2.2.2.2.2))).trans (hHeld.2.2.2.2.2.2.2.2.2.2.2.2.2.2.2.2.2.2.2.2.2.2.2.2.2.2.2)
                              refine ⟨_, rfl, ?_⟩
                              have n0_ := aM (Kd.R_below (rq HO_3) hb)
                              have n1_ := aM (Kd.R_below (rq HO_4) hb)
                              have n2_ := aM (below_step (bq HB) hb)
                              clear HO_3 HO_4 HB
                              have HO_3 := n0_
                              have HO_4 := n1_
                              have HB := n2_
                              clear n0_ n1_ n2_
                              (try clear hb)
                              (try clear hb2)
                              (try clear hk)
                              (try clear hi)
                              refine hK.out _ _ ⟨HS0_, HS1_, HS2_, HS3_, HS4_, HS5_, HS6_, HS7_, HS8_, HS9_, HS10_, HS11_, HS12_, HS13_, HS14_, HS15_, HS16_, HS17_, HS18_, HS19_, HS20_, HS21_, HS22_, HS23_, HS24_, HS25_, HS26_, HS27_⟩ (fun hHeld => ?_)
                              clear hK K
                              refine nQ (N := some 57) ?_
                              refine pQ (i := 15) (N := some 58) #[yy,yy,yy,yy,yy,yy,yy,yy,yy,yy,yy,yy,yy,yy,yy,yy,nn] (any_of HT_.out (by kernel_rfl)) ?_
                              refine pQ (i := 16) (N := some 59) #[yy,yy,yy,yy,yy,yy,yy,yy,yy,yy,yy,yy,yy,yy,yy,yy,yy] (any_of HT_.out (by kernel_rfl)) ?_
                              refine done_ (done_of HT_.out (by kernel_rfl)) ?_
                              try go_wp2
                              go_meet
                              case rel => exact ⟨_, (t117), (by first | rfl | (simp; done) | (simp [*]; done)), H', ⟨by have := HK1.out; have := HJ14.out; first | omega | exact Nat.le_refl _⟩, ⟨by (with_reducible repeat (first | apply Kd.R_alloc | apply Kd.R_drewN | apply Kd.R_drew)); exact HO_3.out⟩, ⟨by (with_reducible repeat (first | apply Kd.R_alloc | apply Kd.R_drewN | apply Kd.R_drew)); exact HO_4.out⟩, ⟨bq HB⟩⟩
                            rw [if_neg c31] at H
                            exact absurd H (by simp)
                          rw [if_neg c30] at H
                          exact absurd H (by simp)
                        rw [if_neg c29] at H
                        exact absurd H (by simp)
                      rw [if_neg c28] at H
                      exact absurd H (by simp)
                    rw [if_neg c25] at H
                    have c25b0 : decide (0 ≤ t114) = false := decide_eq_false c25
                    clear c25
                    (first | rw [c25b0] | (simp only [i64_w, i32_w]; rw [c25b0]) | skip)
                    have H' := Aside0.mk H
                    clear H
                    try go_wp2
                    have n0_ := aM (Kd.R_drew HO_3.out)
                    have n1_ := aM (Kd.R_drew HO_4.out)
                    have n2_ := aM (below_drew1 HB.out)
                    clear HO_3 HO_4 HB
                    have HO_3 := n0_
                    have HO_4 := n1_
                    have HB := n2_
                    clear n0_ n1_ n2_
                    refine start_ (n := 17) (S := fun w' => True) (ds := []) #[nn,nn,nn,nn,nn,nn,nn,nn,nn,nn,nn,nn,nn,nn,nn,nn,nn] (by kernel_rfl) rfl rfl trivial (fun hHeld => ?_); refine with_tabW laws_FnBest.tab12 laws_FnBest.bits12 (fun HT_ HW_ => ?_)
                    generalize w24.drew = w35 at HO_3 HO_4 HB hHeld ⊢
                    refine pQ (i := 0) (N := some 43) #[yy,nn,nn,nn,nn,nn,nn,nn,nn,nn,nn,nn,nn,nn,nn,nn,nn] (any_of HT_.out (by kernel_rfl)) ?_
                    refine pQ (i := 1) (N := some 44) #[yy,yy,nn,nn,nn,nn,nn,nn,nn,nn,nn,nn,nn,nn,nn,nn,nn] (any_of HT_.out (by kernel_rfl)) ?_
                    refine pQ (i := 2) (N := some 45) #[yy,yy,yy,nn,nn,nn,nn,nn,nn,nn,nn,nn,nn,nn,nn,nn,nn] (any_of HT_.out (by kernel_rfl)) ?_
                    refine pure_ (i := 3) (N := some 46) (v := undef) (a' := ?_) #[yy,yy,yy,yy,nn,nn,nn,nn,nn,nn,nn,nn,nn,nn,nn,nn,nn] rfl rfl (any_of HT_.out (by kernel_rfl)) (fun _ _ _ h => h) (Or.inr ⟨by rfl, rfl⟩) ?_ ?_
                    rotate_left
                    · simp only [Act.put, tA, tB, tC, i64_w, i32_w]
                      rfl
                    refine pure_ (i := 4) (N := some 47) (v := undef) (a' := ?_) #[yy,yy,yy,yy,yy,nn,nn,nn,nn,nn,nn,nn,nn,nn,nn,nn,nn] rfl rfl (any_of HT_.out (by kernel_rfl)) (fun _ _ _ h => h) (Or.inr ⟨by rfl, rfl⟩) ?_ ?_
                    rotate_left
                    · simp only [Act.put, tA, tB, tC, i64_w, i32_w]
                      rfl
                    refine pure_ (i := 5) (N := some 48) (v := undef) (a' := ?_) #[yy,yy,yy,yy,yy,yy,nn,nn,nn,nn,nn,nn,nn,nn,nn,nn,nn] rfl rfl (any_of HT_.out (by kernel_rfl)) (fun _ _ _ h => h) (Or.inr ⟨by rfl, rfl⟩) ?_ ?_
                    rotate_left
                    · simp only [Act.put, tA, tB, tC, i64_w, i32_w]
                      rfl
                    refine pure_ (i := 6) (N := some 49) (v := undef) (a' := ?_) #[yy,yy,yy,yy,yy,yy,yy,nn,nn,nn,nn,nn,nn,nn,nn,nn,nn] rfl rfl (any_of HT_.out (by kernel_rfl)) (fun _ _ _ h => h) (Or.inr ⟨by rfl, rfl⟩) ?_ ?_
                    rotate_left
                    · simp only [Act.put, tA, tB, tC, i64_w, i32_w]
                      rfl
                    refine pure_ (i := 7) (N := some 50) (v := undef) (a' := ?_) #[yy,yy,yy,yy,yy,yy,yy,yy,nn,nn,nn,nn,nn,nn,nn,nn,nn] rfl rfl (any_of HT_.out (by kernel_rfl)) (fun _ _ _ h => h) (Or.inr ⟨by rfl, rfl⟩) ?_ ?_
                    rotate_left
                    · simp only [Act.put, tA, tB, tC, i64_w, i32_w]
                      rfl
                    refine pure_ (i := 8) (N := some 51) (v := undef) (a' := ?_) #[yy,yy,yy,yy,yy,yy,yy,yy,yy,nn,nn,nn,nn,nn,nn,nn,nn] rfl rfl (any_of HT_.out (by kernel_rfl)) (fun _ _ _ h => h) (Or.inr ⟨by rfl, rfl⟩) ?_ ?_
                    rotate_left
                    · simp only [Act.put, tA, tB, tC, i64_w, i32_w]
                      rfl
                    refine pure_ (i := 9) (N := some 52) (v := undef) (a' := ?_) #[yy,yy,yy,yy,yy,yy,yy,yy,yy,yy,nn,nn,nn,nn,nn,nn,nn] rfl rfl (any_of HT_.out (by kernel_rfl)) (fun _ _ _ h => h) (Or.inr ⟨by rfl, rfl⟩) ?_ ?_
                    rotate_left
                    · simp only [Act.put, tA, tB, tC, i64_w, i32_w]
                      rfl
                    refine pure_ (i := 10) (N := some 53) (v := undef) (a' := ?_) #[yy,yy,yy,yy,yy,yy,yy,yy,yy,yy,yy,nn,nn,nn,nn,nn,nn] rfl rfl (any_of HT_.out (by kernel_rfl)) (fun _ _ _ h => h) (Or.inr ⟨by rfl, rfl⟩) ?_ ?_
                    rotate_left
                    · simp only [Act.put, tA, tB, tC, i64_w, i32_w]
                      rfl
                    refine pure_ (i := 11) (N := some 54) (v := undef) (a' := ?_) #[yy,yy,yy,yy,yy,yy,yy,yy,yy,yy,yy,yy,nn,nn,nn,nn,nn] rfl rfl (any_of HT_.out (by kernel_rfl)) (fun _ _ _ h => h) (Or.inr ⟨by rfl, rfl⟩) ?_ ?_
                    rotate_left
                    · simp only [Act.put, tA, tB, tC, i64_w, i32_w]
                      rfl
                    refine pure_ (i := 12) (N := some 55) (v := undef) (a' := ?_) #[yy,yy,yy,yy,yy,yy,yy,yy,yy,yy,yy,yy,yy,nn,nn,nn,nn] rfl rfl (any_of HT_.out (by kernel_rfl)) (fun _ _ _ h => h) (Or.inr ⟨by rfl, rfl⟩) ?_ ?_
                    rotate_left
                    · simp only [Act.put, tA, tB, tC, i64_w, i32_w]
                      rfl
                    refine pure_ (i := 13) (N := some 56) (v := undef) (a' := ?_) #[yy,yy,yy,yy,yy,yy,yy,yy,yy,yy,yy,yy,yy,yy,nn,nn,nn] rfl rfl (any_of HT_.out (by kernel_rfl)) (fun _ _ _ h => h) (Or.inr ⟨by rfl, rfl⟩) ?_ ?_
                    rotate_left
                    · simp only [Act.put, tA, tB, tC, i64_w, i32_w]
                      rfl
                    refine pure_ (i := 14) (N := some 57) (v := undef) (a' := ?_) #[yy,yy,yy,yy,yy,yy,yy,yy,yy,yy,yy,yy,yy,yy,yy,nn,nn] rfl rfl (any_of HT_.out (by kernel_rfl)) (fun _ _ _ h => h) (Or.inr ⟨by rfl, rfl⟩) ?_ ?_
                    rotate_left
                    · simp only [Act.put, tA, tB, tC, i64_w, i32_w]
                      rfl
                    refine pure_ (i := 15) (N := some 58) (v := undef) (a' := ?_) #[yy,yy,yy,yy,yy,yy,yy,yy,yy,yy,yy,yy,yy,yy,yy,yy,nn] rfl rfl (any_of HT_.out (by kernel_rfl)) (fun _ _ _ h => h) (Or.inr ⟨by rfl, rfl⟩) ?_ ?_
                    rotate_left
                    · simp only [Act.put, tA, tB, tC, i64_w, i32_w]
                      rfl
                    refine pQ (i := 16) (N := some 59) #[yy,yy,yy,yy,yy,yy,yy,yy,yy,yy,yy,yy,yy,yy,yy,yy,yy] (any_of HT_.out (by kernel_rfl)) ?_
                    refine done_ (done_of HT_.out (by kernel_rfl)) ?_
                    try go_wp2
                    go_meet
                    case rel => exact ⟨_, (false), (by first | rfl | (simp; done) | (simp [*]; done)), H', ⟨by have := HK1.out; have := HJ14.out; first | omega | exact Nat.le_refl _⟩, ⟨by (with_reducible repeat (first | apply Kd.R_alloc | apply Kd.R_drewN | apply Kd.R_drew)); exact HO_3.out⟩, ⟨by (with_reducible repeat (first | apply Kd.R_alloc | apply Kd.R_drewN | apply Kd.R_drew)); exact HO_4.out⟩, ⟨bq HB⟩⟩
                  case rest =>
                    clear HC23
                    try clear c1
                    try clear p1
                    try clear q1
                    try clear hx1
                    try clear c2
                    try clear p2
                    try clear c3
                    try clear c5
                    try clear c6
                    try clear c7
                    try clear c7b0
                    try clear c7b1
                    try clear c11
                    try clear p11
                    try clear q11
                    try clear hx11
                    try clear c12
                    try clear c16
                    try clear c16b0
                    try clear c19
                    try clear c20
                    try clear c20b0
                    try clear c21
                    try clear c21b0
                    try clear c25
                    try clear c25b0
                    try clear c26
                    try clear c26b0
                    try clear c28
                    try clear c28b0
                    try clear c29
                    try clear c29b0
                    try clear c30
                    try clear c30b0
                    try clear c31
                    try clear c31b0
                    try clear hx113_0
                    try clear hx115_0
                    try clear hx115_1
                    try clear hx115_10
                    try clear hx115_11
                    try clear hx115_12
                    try clear hx115_13
                    try clear hx115_2
                    try clear hx115_3
                    try clear hx115_4
                    try clear hx115_5
                    try clear hx115_6
                    try clear hx115_7
                    try clear hx115_8
                    try clear hx115_9
                    try clear hx116_0
                    try clear hx116_1
                    try clear hx116_10
                    try clear hx116_11
                    try clear hx116_12
                    try clear hx116_13
                    try clear hx116_2
                    try clear hx116_3
                    try clear hx116_4
                    try clear hx116_5
                    try clear hx116_6
                    try clear hx116_7
                    try clear hx116_8
                    try clear hx116_9
                    try clear p113
                    try clear p115
                    try clear p116
                    try clear p2
                    try clear q113
                    try clear q115
                    try clear q116
                    obtain ⟨kq, x59_22, rfl, HA, HJ22, HO_3, HO_4, HB⟩ := hcut
                    cases kq with
                    | zero => exact absurd HA.out (by simp [laws_FnBest.j2])
                    | succ kj22 =>
                      have H := HA.out
                      clear HA
                      simp only [laws_FnBest.j2] at H
                      by_cases c36 : x59_22 = true
                      · subst c36
                        have H1 : (some false) = some r := by rw [if_pos rfl] at H; exact H
                        clear H
                        have H := H1
                        clear H1
                        exact absurd ((Option.some.inj H).trans HRT.out) Bool.false_ne_true
                      replace c36 := Bool.eq_false_iff.mpr c36
                      subst c36
                      have H1 : (laws_FnBest.l0 kj22 t102 t103 t108 t110 (wrap64 (x7_1 + 1))) = some r := by rw [if_neg (show ¬ (false = true) by decide)] at H; exact H
                      clear H
                      have H := H1
                      clear H1
                      have H' := Aside0.mk H
                      clear H
                      go_wp2
                      go_roundg kj22
                      case measure => have := HK1.out; have := HJ14.out; have := HJ22.out; omega
                      case rel => exact ⟨(wrap64 (x7_1 + 1)), (by first | rfl | (simp; done) | (simp [*]; done)), H', ⟨by have := HK1.out; have := HJ14.out; have := HJ22.out; omega⟩, ⟨by (with_reducible repeat (first | apply Kd.R_alloc | apply Kd.R_drewN | apply Kd.R_drew)); exact HO_3.out⟩, ⟨by (with_reducible repeat (first | apply Kd.R_alloc | apply Kd.R_drewN | apply Kd.R_drew)); exact HO_4.out⟩, ⟨bq HB⟩⟩
                rw [if_neg c21] at H
                exact absurd H (by simp)
              rw [if_neg c20] at H
              exact absurd H (by simp)
            replace c19 := Bool.eq_false_iff.mpr c19
            subst c19
            have H1 : (if t108 = 0 then (some true) else ((laws_within.f kj14 t103 t108).bind fun t112 => (if t112 = true then (some (decide (t110 ≥ 0))) else (some false)))) = some r := by rw [if_neg (show ¬ (false = true) by decide)] at H; exact H
            clear H
            have H := H1
            clear H1
            by_cases c37 : t108 = 0
            · rw [if_pos c37] at H
              have c37b0 : (t108 == 0) = true := beq_iff_eq.mpr c37
              have c37b1 : (t108 != 0) = false := bne_eq_false_iff_eq.mpr c37
              clear c37
              obtain rfl := Option.some.inj H
              go_wp2
              all_goals go_ret
              all_goals exact ⟨by first | rfl | (simp <;> rfl) | (simp [*] <;> rfl), bq HB⟩
            rw [if_neg c37] at H
            have c37b0 : (t108 == 0) = false := beq_eq_false_iff_ne.mpr c37
            have c37b1 : (t108 != 0) = true := bne_iff_ne.mpr c37
            replace H := Option.bind_eq_some_iff.mp H
            obtain ⟨t112, A380, H⟩ := H
            replace H : (if t112 = true then (some (decide (t110 ≥ 0))) else (some false)) = some r := H
            have A38 := Aside0.mk A380
            clear A380
            by_cases c39 : t112 = true
            · subst c39
              have H1 : (some (decide (t110 ≥ 0))) = some r := by rw [if_pos rfl] at H; exact H
              clear H
              have H := H1
              clear H1
              obtain rfl := Option.some.inj H
              go_wp2_with (first | (go_at_call 63; (with_reducible refine (laws_within.calls kj14 _ _ t103 t108 true _ ?side1 ?side2 A38.out).mono ?_); (case side1 => repeat (first | exact (Kd.R_reads' HO_4.out).2.2 | (with_reducible refine Kd.C_alloc ?_ _) | (with_reducible refine Kd.C_drewN ?_ _) | (with_reducible refine Kd.C_drew ?_))); (case side2 => exact (Kd.R_reads' HO_4.out).2.1); rintro e w' ⟨rfl, ⟨nd, rfl⟩⟩))
              all_goals go_ret
              all_goals exact ⟨by first | rfl | (simp <;> rfl) | (simp [*] <;> rfl), bq HB⟩
            replace c39 := Bool.eq_false_iff.mpr c39
            subst c39
            have H1 : (some false) = some r := by rw [if_neg (show ¬ (false = true) by decide)] at H; exact H
            clear H
            have H := H1
            clear H1
            exact absurd ((Option.some.inj H).trans HRT.out) Bool.false_ne_true
  rw [if_neg c7] at H
  have c7b0 : (t108 == t109) = false := beq_eq_false_iff_ne.mpr c7
  have c7b1 : (t108 != t109) = true := bne_iff_ne.mpr c7
  exact absurd ((Option.some.inj H).trans HRT.out) Bool.false_ne_true

/-- THE ONE PURE STATEMENT of laws_FnBest: yours. -/
def laws_FnBest.Pure : Prop := ∀ (l0 : List Int), l0.length ≤ maxLen → l0.length * 1 ≤ 140737488351232 → (∀ x ∈ l0, (Lit.int .u8 x).wf = true) → ∃ k, laws_FnBest.f k l0 = some true
theorem laws_FnBest.walk (P : laws_FnBest.Pure) (a0 : Option Addr) (len0 cap0 : Nat) (z0 : List Int) (w : World) (w0 : (a0 = none ∧ len0 = 0 ∧ cap0 = 0 ∧ z0 = []) ∨ ∃ x, a0 = some x ∧ len0 ≤ cap0 ∧ cap0 ≤ maxLen ∧ z0.length = cap0 ∧ (∀ i, i < z0.length → w.cell? (x.add i) = some (.int .u8 (z0.getD i 0))) ∧ ∀ n ∈ z0, (Lit.int .u8 n).wf = true) (y0 : len0 * 1 ≤ 140737488351232) :
    Calls Try.prog 11 #[.slice a0 len0 cap0] w fun e w' => e = .returned (.bool true) ∧ Below w.heap.size w w' := by
  obtain ⟨l0, rfl, hr0, hm0, hw0, hc0⟩ := ReadsInt.ofRowC w0
  obtain ⟨k, h⟩ := P l0 hm0 y0 hw0
  refine (laws_FnBest.calls k _ _ l0 true w (Kd.C_of_reads (d := (0 : Int)) (h1 := fun _ => rfl) hr0) hc0 rfl h).mono ?_
  rintro e w' ⟨rfl, hd⟩
  exact ⟨rfl, hd⟩

end Go.Proofs.Ytphkgmdbdnjmbaa.Print
