/- Go functions as plain Lean functions, and that the Go code answers just as these, wherever they answer. Conditions: those of each theorem. Written by a program of this session (wip/patch.py). -/
import Derived.Test.YtphkgmdbdnjmbaaPrint0
import Derived.Test.YtphkgmdbdnjmbaaPrintImplBestOf
import Derived.Test.YtphkgmdbdnjmbaaPrintSpecBefore
import Derived.Test.YtphkgmdbdnjmbaaPrintSpecTasksOk
namespace Go.Proofs.Ytphkgmdbdnjmbaa.Print
open Go.RowKit Go.Proofs.Ytphkgmdbdnjmbaa.Base Go.Proofs.YtphkgmdbdnjmbaaW.PrintWords Go.Proofs.YtphkgmdbdnjmbaaW.PrintLast Go.Proofs.YtphkgmdbdnjmbaaW.PrintMore
attribute [local go_sem] max2_int min2_int max_two min_two max_three min_three max_four min_four   -- for this text's walks alone
set_option linter.unusedVariables false
set_option linter.unusedSimpArgs false

/-! ### spec_BestOf: function 62 -/
mutual
def spec_BestOf.l0 : Nat → List (S27) → List Int → Int → Int → Option (Int)
  | 0, _, _, _, _ => none
  | k + 1, x0, x1, x5, x6 => if x6 < (x0.length : Int) then ((spec_TasksOk.f k x0).bind fun t101 => (spec_BestOf.j1 k x0 x1 x5 x6 t101)) else (spec_BestOf.j1 k x0 x1 x5 x6 false)
def spec_BestOf.j1 : Nat → List (S27) → List Int → Int → Int → Bool → Option (Int)
  | 0, _, _, _, _, _ => none
  | k + 1, x0, x1, x5, x6, x14 => if x14 = true then (if 0 ≤ x6 then (if x6 < (x0.length : Int) then ((spec_l7Has.f k x1 ((rd_T27 x0 x6).f0)).bind fun t104 => (if t104 = true then (if x5 < 0 then (spec_BestOf.l0 k x0 x1 x6 (wrap64 (x6 + 1))) else (if 0 ≤ x5 then (if x5 < (x0.length : Int) then ((spec_Before.f k ((rd_T27 x0 x6).f0) ((rd_T27 x0 x6).f1) ((rd_T27 x0 x6).f2) ((rd_T27 x0 x6).f3) ((rd_T27 x0 x6).f4) ((rd_T27 x0 x6).f5) ((rd_T27 x0 x6).f6) ((rd_T27 x0 x6).f7) ((rd_T27 x0 x6).f8) ((rd_T27 x0 x6).f9) ((rd_T27 x0 x6).f10) ((rd_T27 x0 x6).f11) ((rd_T27 x0 x6).f12) ((rd_T27 x0 x6).f13) ((rd_T27 x0 x5).f0) ((rd_T27 x0 x5).f1) ((rd_T27 x0 x5).f2) ((rd_T27 x0 x5).f3) ((rd_T27 x0 x5).f4) ((rd_T27 x0 x5).f5) ((rd_T27 x0 x5).f6) ((rd_T27 x0 x5).f7) ((rd_T27 x0 x5).f8) ((rd_T27 x0 x5).f9) ((rd_T27 x0 x5).f10) ((rd_T27 x0 x5).f11) ((rd_T27 x0 x5).f12) ((rd_T27 x0 x5).f13)).bind fun t107 => (if t107 = true then (spec_BestOf.l0 k x0 x1 x6 (wrap64 (x6 + 1))) else (spec_BestOf.l0 k x0 x1 x5 (wrap64 (x6 + 1))))) else (none)) else (none))) else (spec_BestOf.l0 k x0 x1 x5 (wrap64 (x6 + 1))))) else (none)) else (none)) else (if x5 < 0 then (some 0) else (if 0 ≤ x5 then (if x5 < (x0.length : Int) then (some ((rd_T27 x0 x5).f0)) else (none)) else (none)))
end
def spec_BestOf.f (k : Nat) (l0 : List (S27)) (l1 : List Int) : Option (Int) := spec_BestOf.l0 k l0 l1 (-1) 0
theorem spec_BestOf.mono_l : ∀ k, (∀ y0 y1 y2 y3, LeO (spec_BestOf.l0 k y0 y1 y2 y3) (spec_BestOf.l0 (k + 1) y0 y1 y2 y3)) ∧ (∀ y0 y1 y2 y3 y4, LeO (spec_BestOf.j1 k y0 y1 y2 y3 y4) (spec_BestOf.j1 (k + 1) y0 y1 y2 y3 y4))
  | 0 => ⟨fun _ _ _ _ r h => by simp [spec_BestOf.l0] at h, fun _ _ _ _ _ r h => by simp [spec_BestOf.j1] at h⟩
  | k + 1 => by
    obtain ⟨ih0, ih1⟩ := spec_BestOf.mono_l k
    refine ⟨?_, ?_⟩
    · intro y0 y1 y2 y3
      unfold spec_BestOf.l0
      repeat' first
      | (with_reducible exact ih0 _ _ _ _)
      | (with_reducible exact ih1 _ _ _ _ _)
      | (with_reducible exact spec_Before.mono _ _ _ _ _ _ _ _ _ _ _ _ _ _ _ _ _ _ _ _ _ _ _ _ _ _ _ _ _)
      | (with_reducible exact spec_TasksOk.mono _ _)
      | (with_reducible exact spec_l7Has.mono _ _ _)
      | (with_reducible exact LeO.refl _)
      | (with_reducible exact LeO.none _)
      | (with_reducible refine LeO.ite ?_ ?_)
      | (with_reducible refine LeO.bind ?_ (fun _ => ?_))
      | exact ih0 _ _ _ _
      | exact ih1 _ _ _ _ _
      | exact spec_Before.mono _ _ _ _ _ _ _ _ _ _ _ _ _ _ _ _ _ _ _ _ _ _ _ _ _ _ _ _ _
      | exact spec_TasksOk.mono _ _
      | exact spec_l7Has.mono _ _ _
      | exact LeO.none _
      | refine LeO.ite ?_ ?_
      | refine LeO.bind ?_ (fun _ => ?_)
    intro y0 y1 y2 y3 y4
    unfold spec_BestOf.j1
    repeat' first
    | (with_reducible exact ih0 _ _ _ _)
    | (with_reducible exact ih1 _ _ _ _ _)
    | (with_reducible exact spec_Before.mono _ _ _ _ _ _ _ _ _ _ _ _ _ _ _ _ _ _ _ _ _ _ _ _ _ _ _ _ _)
    | (with_reducible exact spec_TasksOk.mono _ _)
    | (with_reducible exact spec_l7Has.mono _ _ _)
    | (with_reducible exact LeO.refl _)
    | (with_reducible exact LeO.none _)
    | (with_reducible refine LeO.ite ?_ ?_)
    | (with_reducible refine LeO.bind ?_ (fun _ => ?_))
    | exact ih0 _ _ _ _
    | exact ih1 _ _ _ _ _
    | exact spec_Before.mono _ _ _ _ _ _ _ _ _ _ _ _ _ _ _ _ _ _ _ _ _ _ _ _ _ _ _ _ _
    | exact spec_TasksOk.mono _ _
    | exact spec_l7Has.mono _ _ _
    | exact LeO.none _
    | refine LeO.ite ?_ ?_
    | refine LeO.bind ?_ (fun _ => ?_)
theorem spec_BestOf.mono : ∀ a0 a1 k, LeO (spec_BestOf.f k a0 a1) (spec_BestOf.f (k + 1) a0 a1) := by
  intro a0 a1 k
  obtain ⟨ih0, ih1⟩ := spec_BestOf.mono_l k
  unfold spec_BestOf.f
  repeat' first
      | (with_reducible exact ih0 _ _ _ _)
      | (with_reducible exact ih1 _ _ _ _ _)
      | (with_reducible exact spec_Before.mono _ _ _ _ _ _ _ _ _ _ _ _ _ _ _ _ _ _ _ _ _ _ _ _ _ _ _ _ _)
      | (with_reducible exact spec_TasksOk.mono _ _)
      | (with_reducible exact spec_l7Has.mono _ _ _)
      | (with_reducible exact LeO.refl _)
      | (with_reducible exact LeO.none _)
      | (with_reducible refine LeO.ite ?_ ?_)
      | (with_reducible refine LeO.bind ?_ (fun _ => ?_))
      | exact ih0 _ _ _ _
      | exact ih1 _ _ _ _ _
      | exact spec_Before.mono _ _ _ _ _ _ _ _ _ _ _ _ _ _ _ _ _ _ _ _ _ _ _ _ _ _ _ _ _
      | exact spec_TasksOk.mono _ _
      | exact spec_l7Has.mono _ _ _
      | exact LeO.none _
      | refine LeO.ite ?_ ?_
      | refine LeO.bind ?_ (fun _ => ?_)
def spec_BestOf.T5 : Bool × List (List Nat × List Nat) := (true, [([], []), ([], []), ([], []), ([1, 2], [1, 2]), ([3], [3]), ([4], [4]), ([0, 5], [0, 5]), ([6, 6], [6]), ([7], [7]), ([8, 7], [7, 8]), ([9, 7, 7], [7, 9]), ([10], [10]), ([10], [10]), ([11, 12, 10], [10, 11, 12]), ([13, 10], [10, 13]), ([10], [10]), ([10], [10]), ([15, 16, 10], [10, 15, 16]), ([17, 10], [10, 17]), ([14, 18, 10, 10], [10, 14, 18]), ([10, 19, 7], [7, 10, 19]), ([7, 20], [7, 20])])
def spec_BestOf.B5 : List Nat := [0, 0, 0, 6, 14, 30, 63, 127, 255, 511, 1023, 2047, 2047, 8191, 16383, 2047, 2047, 100351, 231423, 524287, 1048575, 2097151]
theorem spec_BestOf.tab5 : rtab .any (opsOf Try.f62 5) = spec_BestOf.T5 := by kernel_rfl
theorem spec_BestOf.bits5 : waitsOk spec_BestOf.T5.2 spec_BestOf.B5 = true := by kernel_rfl
set_option maxHeartbeats 8000000 in
set_option maxRecDepth 100000 in
theorem spec_BestOf.calls (k : Nat) (A0 : Option Addr) (c0 : Nat) (l0 : List (S27)) (A1 : Option Addr) (c1 : Nat) (l1 : List Int) (r : Int) (w : World) (hr0 : Kd.C k27 w A0 l0.length l0) (hc0 : l0.length ≤ c0) (hr1 : Kd.C (Kd.int .i64) w A1 l1.length l1) (hc1 : l1.length ≤ c1) (h : spec_BestOf.f k l0 l1 = some r) :
    Calls Try.prog 62 #[.slice A0 l0.length c0, .slice A1 l1.length c1] w fun e w' => e = .returned (.int .i64 r) ∧ Below w.heap.size w w' := by
  have hu27 := Try.underlying27
  have HR0 := Aside0.mk hr0
  have HC0 := Aside0.mk hc0
  clear hr0 hc0
  have HR1 := Aside0.mk hr1
  have HC1 := Aside0.mk hc1
  clear hr1 hc1
  have HB := aM (Below.refl w.heap.size w)
  have H : (spec_BestOf.l0 k l0 l1 (-1) 0) = some r := h
  clear h
  have H' := Aside0.mk H
  clear H
  go_enter Try.func62, Try.ntmps62
  go_wp2
  go_loopg [5, 6] k (fun kq v5 v6 w' => ∃ (x5_1 : Int) (x6_1 : Int), v5 = .int .i64 x5_1 ∧ v6 = .int .i64 x6_1 ∧ Aside0 (spec_BestOf.l0 kq l0 l1 x5_1 x6_1 = some r) ∧ Aside0 (kq ≤ k) ∧ Aside0 (Below w.heap.size w w'))
  case atStart => exact ⟨((-1)), (0), (by first | rfl | (simp; done) | (simp [*]; done)), (by first | rfl | (simp; done) | (simp [*]; done)), H', ⟨Nat.le_refl _⟩, ⟨bq HB⟩⟩
  case round =>
    clear H'
    try clear c1
    try clear p2
    obtain ⟨x5_1, x6_1, rfl, rfl, HA, HK1, HB⟩ := hrel
    cases gk with
    | zero => exact absurd HA.out (by simp [spec_BestOf.l0])
    | succ k1 =>
      have H := HA.out
      clear HA
      simp only [spec_BestOf.l0] at H
      have HC3 := Aside0.mk H
      clear H
      go_upto_region 3 with (fail)
      go_cut [14] (fun v14 wc => ∃ (kq : Nat) (x14_2 : Bool), v14 = .bool x14_2 ∧ Aside0 (spec_BestOf.j1 kq l0 l1 x5_1 x6_1 x14_2 = some r) ∧ Aside0 (kq ≤ k1) ∧ Aside0 (Below w.heap.size w wc))
      case first =>
        have H := HC3.out
        clear HC3
        by_cases c4 : x6_1 < (l0.length : Int)
        · rw [if_pos c4] at H
          have c4b0 : decide (x6_1 < (l0.length : Int)) = true := decide_eq_true c4
          clear c4
          (first | rw [c4b0] | (simp only [i64_w, i32_w]; rw [c4b0]) | skip)
          replace H := Option.bind_eq_some_iff.mp H
          obtain ⟨t101, A50, H⟩ := H
          replace H : (spec_BestOf.j1 k1 l0 l1 x5_1 x6_1 t101) = some r := H
          have A5 := Aside0.mk A50
          clear A50
          have H' := Aside0.mk H
          clear H
          go_wp2_with (first | (go_at_call 58; (with_reducible refine (spec_TasksOk.calls k1 _ _ l0 t101 _ ?side1 ?side2 A5.out).mono ?_); (case side1 => repeat (first | exact (Kd.C_below HR0.out HB.out) | (with_reducible refine Kd.C_alloc ?_ _) | (with_reducible refine Kd.C_drewN ?_ _) | (with_reducible refine Kd.C_drew ?_))); (case side2 => exact HC0.out); rintro e w6 ⟨rfl, hb⟩; have n0_ := aM (below_step (bq HB) hb); clear HB; have HB := n0_; clear n0_; (try clear hb); (try clear hb2); (try clear hk); (try clear hi)))
          go_meet
          case rel => exact ⟨_, (t101), (by first | rfl | (simp; done) | (simp [*]; done)), H', ⟨by have := HK1.out; first | omega | exact Nat.le_refl _⟩, ⟨bq HB⟩⟩
        rw [if_neg c4] at H
        have c4b0 : decide (x6_1 < (l0.length : Int)) = false := decide_eq_false c4
        clear c4
        (first | rw [c4b0] | (simp only [i64_w, i32_w]; rw [c4b0]) | skip)
        have H' := Aside0.mk H
        clear H
        go_wp2
        go_meet
        case rel => exact ⟨_, (false), (by first | rfl | (simp; done) | (simp [*]; done)), H', ⟨by have := HK1.out; first | omega | exact Nat.le_refl _⟩, ⟨bq HB⟩⟩
      case rest =>
        clear HC3
        try clear c1
        try clear p2
        try clear c4
        try clear c4b0
        try clear c6
        try clear p2
        obtain ⟨kq, x14_2, rfl, HA, HJ2, HB⟩ := hcut
        cases kq with
        | zero => exact absurd HA.out (by simp [spec_BestOf.j1])
        | succ kj2 =>
          have H := HA.out
          clear HA
          simp only [spec_BestOf.j1] at H
          by_cases c7 : x14_2 = true
          · subst c7
            have H1 : (if 0 ≤ x6_1 then (if x6_1 < (l0.length : Int) then ((spec_l7Has.f kj2 l1 ((rd_T27 l0 x6_1).f0)).bind fun t104 => (if t104 = true then (if x5_1 < 0 then (spec_BestOf.l0 kj2 l0 l1 x6_1 (wrap64 (x6_1 + 1))) else (if 0 ≤ x5_1 then (if x5_1 < (l0.length : Int) then ((spec_Before.f kj2 ((rd_T27 l0 x6_1).f0) ((rd_T27 l0 x6_1).f1) ((rd_T27 l0 x6_1).f2) ((rd_T27 l0 x6_1).f3) ((rd_T27 l0 x6_1).f4) ((rd_T27 l0 x6_1).f5) ((rd_T27 l0 x6_1).f6) ((rd_T27 l0 x6_1).f7) ((rd_T27 l0 x6_1).f8) ((rd_T27 l0 x6_1).f9) ((rd_T27 l0 x6_1).f10) ((rd_T27 l0 x6_1).f11) ((rd_T27 l0 x6_1).f12) ((rd_T27 l0 x6_1).f13) ((rd_T27 l0 x5_1).f0) ((rd_T27 l0 x5_1).f1) ((rd_T27 l0 x5_1).f2) ((rd_T27 l0 x5_1).f3) ((rd_T27 l0 x5_1).f4) ((rd_T27 l0 x5_1).f5) ((rd_T27 l0 x5_1).f6) ((rd_T27 l0 x5_1).f7) ((rd_T27 l0 x5_1).f8) ((rd_T27 l0 x5_1).f9) ((rd_T27 l0 x5_1).f10) ((rd_T27 l0 x5_1).f11) ((rd_T27 l0 x5_1).f12) ((rd_T27 l0 x5_1).f13)).bind fun t107 => (if t107 = true then (spec_BestOf.l0 kj2 l0 l1 x6_1 (wrap64 (x6_1 + 1))) else (spec_BestOf.l0 kj2 l0 l1 x5_1 (wrap64 (x6_1 + 1))))) else (none)) else (none))) else (spec_BestOf.l0 kj2 l0 l1 x5_1 (wrap64 (x6_1 + 1))))) else (none)) else (none)) = some r := by rw [if_pos rfl] at H; exact H
            clear H
            have H := H1
            clear H1
            by_cases c8 : 0 ≤ x6_1
            · rw [if_pos c8] at H
              have c8b0 : decide (0 ≤ x6_1) = true := decide_eq_true c8
              clear c8
              by_cases c9 : x6_1 < (l0.length : Int)
              · rw [if_pos c9] at H
                have c9b0 : decide (x6_1 < (l0.length : Int)) = true := decide_eq_true c9
                clear c9
                replace H := Option.bind_eq_some_iff.mp H
                obtain ⟨t104, A100, H⟩ := H
                replace H : (if t104 = true then (if x5_1 < 0 then (spec_BestOf.l0 kj2 l0 l1 x6_1 (wrap64 (x6_1 + 1))) else (if 0 ≤ x5_1 then (if x5_1 < (l0.length : Int) then ((spec_Before.f kj2 ((rd_T27 l0 x6_1).f0) ((rd_T27 l0 x6_1).f1) ((rd_T27 l0 x6_1).f2) ((rd_T27 l0 x6_1).f3) ((rd_T27 l0 x6_1).f4) ((rd_T27 l0 x6_1).f5) ((rd_T27 l0 x6_1).f6) ((rd_T27 l0 x6_1).f7) ((rd_T27 l0 x6_1).f8) ((rd_T27 l0 x6_1).f9) ((rd_T27 l0 x6_1).f10) ((rd_T27 l0 x6_1).f11) ((rd_T27 l0 x6_1).f12) ((rd_T27 l0 x6_1).f13) ((rd_T27 l0 x5_1).f0) ((rd_T27 l0 x5_1).f1) ((rd_T27 l0 x5_1).f2) ((rd_T27 l0 x5_1).f3) ((rd_T27 l0 x5_1).f4) ((rd_T27 l0 x5_1).f5) ((rd_T27 l0 x5_1).f6) ((rd_T27 l0 x5_1).f7) ((rd_T27 l0 x5_1).f8) ((rd_T27 l0 x5_1).f9) ((rd_T27 l0 x5_1).f10) ((rd_T27 l0 x5_1).f11) ((rd_T27 l0 x5_1).f12) ((rd_T27 l0 x5_1).f13)).bind fun t107 => (if t107 = true then (spec_BestOf.l0 kj2 l0 l1 x6_1 (wrap64 (x6_1 + 1))) else (spec_BestOf.l0 kj2 l0 l1 x5_1 (wrap64 (x6_1 + 1))))) else (none)) else (none))) else (spec_BestOf.l0 kj2 l0 l1 x5_1 (wrap64 (x6_1 + 1)))) = some r := H
                have A10 := Aside0.mk A100
                clear A100
                by_cases c11 : t104 = true
                · subst c11
                  have H1 : (if x5_1 < 0 then (spec_BestOf.l0 kj2 l0 l1 x6_1 (wrap64 (x6_1 + 1))) else (if 0 ≤ x5_1 then (if x5_1 < (l0.length : Int) then ((spec_Before.f kj2 ((rd_T27 l0 x6_1).f0) ((rd_T27 l0 x6_1).f1) ((rd_T27 l0 x6_1).f2) ((rd_T27 l0 x6_1).f3) ((rd_T27 l0 x6_1).f4) ((rd_T27 l0 x6_1).f5) ((rd_T27 l0 x6_1).f6) ((rd_T27 l0 x6_1).f7) ((rd_T27 l0 x6_1).f8) ((rd_T27 l0 x6_1).f9) ((rd_T27 l0 x6_1).f10) ((rd_T27 l0 x6_1).f11) ((rd_T27 l0 x6_1).f12) ((rd_T27 l0 x6_1).f13) ((rd_T27 l0 x5_1).f0) ((rd_T27 l0 x5_1).f1) ((rd_T27 l0 x5_1).f2) ((rd_T27 l0 x5_1).f3) ((rd_T27 l0 x5_1).f4) ((rd_T27 l0 x5_1).f5) ((rd_T27 l0 x5_1).f6) ((rd_T27 l0 x5_1).f7) ((rd_T27 l0 x5_1).f8) ((rd_T27 l0 x5_1).f9) ((rd_T27 l0 x5_1).f10) ((rd_T27 l0 x5_1).f11) ((rd_T27 l0 x5_1).f12) ((rd_T27 l0 x5_1).f13)).bind fun t107 => (if t107 = true then (spec_BestOf.l0 kj2 l0 l1 x6_1 (wrap64 (x6_1 + 1))) else (spec_BestOf.l0 kj2 l0 l1 x5_1 (wrap64 (x6_1 + 1))))) else (none)) else (none))) = some r := by rw [if_pos rfl] at H; exact H
                  clear H
                  have H := H1
                  clear H1
                  by_cases c12 : x5_1 < 0
                  · rw [if_pos c12] at H
                    have c12b0 : decide (x5_1 < 0) = true := decide_eq_true c12
                    clear c12
                    have H' := Aside0.mk H
                    clear H
                    try go_wp2
                    have n0_ := aM (below_drew1 HB.out)
                    clear HB
                    have HB := n0_
                    clear n0_
                    have p103 : 0 ≤ (x6_1 : Int) := of_decide_eq_true (by first | (with_reducible assumption) | assumption)
                    have q103 : x6_1 < (l0.length : Int) := of_decide_eq_true (by first | (with_reducible assumption) | assumption)
                    obtain ⟨ad103, e103, hx103_0, hx103_1, hx103_2, hx103_3, hx103_4, hx103_5, hx103_6, hx103_7, hx103_8, hx103_9, hx103_10, hx103_11, hx103_12, hx103_13⟩ := at_T27 HR0.out x6_1 p103 q103
                    have hw103_13 := hx103_13
                    have hw103_12 := hx103_12
                    have hw103_11 := hx103_11
                    have hw103_10 := hx103_10
                    have hw103_9 := hx103_9
                    have hw103_8 := hx103_8
                    have hw103_7 := hx103_7
                    have hw103_6 := hx103_6
                    have hw103_5 := hx103_5
                    have hw103_4 := hx103_4
                    have hw103_3 := hx103_3
                    have hw103_2 := hx103_2
                    have hw103_1 := hx103_1
                    have hw103_0 := hx103_0
                    cases e103
                    have hmv_ := mv14 HB.out hx103_0 hx103_1 hx103_2 hx103_3 hx103_4 hx103_5 hx103_6 hx103_7 hx103_8 hx103_9 hx103_10 hx103_11 hx103_12 hx103_13
                    clear hx103_0 hx103_1 hx103_2 hx103_3 hx103_4 hx103_5 hx103_6 hx103_7 hx103_8 hx103_9 hx103_10 hx103_11 hx103_12 hx103_13
                    obtain ⟨hx103_0, hx103_1, hx103_2, hx103_3, hx103_4, hx103_5, hx103_6, hx103_7, hx103_8, hx103_9, hx103_10, hx103_11, hx103_12, hx103_13⟩ := hmv_
                    replace p103 := eq_true p103
                    replace q103 := eq_true q103
                    refine start_ (n := 22) (S := fun w' => ca14 w' (ad103.add ((x6_1).toNat * 14)) (.int .i64 ((rd_T27 l0 x6_1).f0)) (.int .i64 ((rd_T27 l0 x6_1).f1)) (.int .i64 ((rd_T27 l0 x6_1).f2)) (.int .i64 ((rd_T27 l0 x6_1).f3)) (.bool ((rd_T27 l0 x6_1).f4)) (.int .i64 ((rd_T27 l0 x6_1).f5)) (.int .i64 ((rd_T27 l0 x6_1).f6)) (.int .i64 ((rd_T27 l0 x6_1).f7)) (.int .i64 ((rd_T27 l0 x6_1).f8)) (.int .i64 ((rd_T27 l0 x6_1).f9)) (.int .i64 ((rd_T27 l0 x6_1).f10)) (.int .i64 ((rd_T27 l0 x6_1).f11)) (.int .i64 ((rd_T27 l0 x6_1).f12)) (.int .i64 ((rd_T27 l0 x6_1).f13))) (ds := []) #[nn,nn,nn,nn,nn,nn,nn,nn,nn,nn,nn,nn,nn,nn,nn,nn,nn,nn,nn,nn,nn,nn] (by kernel_rfl) rfl rfl ⟨((HB.out.cell (World.block_lt_of_cell? w _ hw103_0)).trans hw103_0), ((HB.out.cell (World.block_lt_of_cell? w _ hw103_1)).trans hw103_1), ((HB.out.cell (World.block_lt_of_cell? w _ hw103_2)).trans hw103_2), ((HB.out.cell (World.block_lt_of_cell? w _ hw103_3)).trans hw103_3), ((HB.out.cell (World.block_lt_of_cell? w _ hw103_4)).trans hw103_4), ((HB.out.cell (World.block_lt_of_cell? w _ hw103_5)).trans hw103_5), ((HB.out.cell (World.block_lt_of_cell? w _ hw103_6)).trans hw103_6), ((HB.out.cell (World.block_lt_of_cell? w _ hw103_7)).trans hw103_7), ((HB.out.cell (World.block_lt_of_cell? w _ hw103_8)).trans hw103_8), ((HB.out.cell (World.block_lt_of_cell? w _ hw103_9)).trans hw103_9), ((HB.out.cell (World.block_lt_of_cell? w _ hw103_10)).trans hw103_10), ((HB.out.cell (World.block_lt_of_cell? w _ hw103_11)).trans hw103_11), ((HB.out.cell (World.block_lt_of_cell? w _ hw103_12)).trans hw103_12), ((HB.out.cell (World.block_lt_of_cell? w _ hw103_13)).trans hw103_13)⟩ (fun hHeld => ?_); refine with_tabW spec_BestOf.tab5 spec_BestOf.bits5 (fun HT_ HW_ => ?_)
                    generalize wc.drew = w13 at HB hx103_0 hx103_1 hx103_10 hx103_11 hx103_12 hx103_13 hx103_2 hx103_3 hx103_4 hx103_5 hx103_6 hx103_7 hx103_8 hx103_9 hHeld ⊢
                    refine pQ (i := 0) (N := some 17) #[yy,nn,nn,nn,nn,nn,nn,nn,nn,nn,nn,nn,nn,nn,nn,nn,nn,nn,nn,nn,nn,nn] (any_of HT_.out (by kernel_rfl)) ?_
                    refine pQ (i := 1) (N := some 18) #[yy,yy,nn,nn,nn,nn,nn,nn,nn,nn,nn,nn,nn,nn,nn,nn,nn,nn,nn,nn,nn,nn] (any_of HT_.out (by kernel_rfl)) ?_
                    refine pQ (i := 2) (N := some 19) #[yy,yy,yy,nn,nn,nn,nn,nn,nn,nn,nn,nn,nn,nn,nn,nn,nn,nn,nn,nn,nn,nn] (any_of HT_.out (by kernel_rfl)) ?_
                    refine pQ (i := 3) (N := some 20) #[yy,yy,yy,yy,nn,nn,nn,nn,nn,nn,nn,nn,nn,nn,nn,nn,nn,nn,nn,nn,nn,nn] (any_of HT_.out (by kernel_rfl)) ?_
                    refine pQ (i := 4) (N := some 21) #[yy,yy,yy,yy,yy,nn,nn,nn,nn,nn,nn,nn,nn,nn,nn,nn,nn,nn,nn,nn,nn,nn] (any_of HT_.out (by kernel_rfl)) ?_
                    refine tQ (i := 5) (N := some 22) #[yy,yy,yy,yy,yy,yy,nn,nn,nn,nn,nn,nn,nn,nn,nn,nn,nn,nn,nn,nn,nn,nn] (take_ofW HT_.out HW_.out (by kernel_rfl)) hHeld ?_
                    refine one_ (i := 6) (N := some 23) #[yy,yy,yy,yy,yy,yy,yy,nn,nn,nn,nn,nn,nn,nn,nn,nn,nn,nn,nn,nn,nn,nn] rfl rfl (one_of HT_.out (by kernel_rfl)) (by decide) (fun K hK => ?_)
                    refine goes_ Try.func107 (by kernel_rfl) rfl #[.slice A1 l1.length c1, .int .i64 ((rd_T27 l0 x6_1).f0)] (by rfl) rfl rfl (by (try simp only [List.map_toArray, List.map_cons, List.map_nil]); first | done | rfl | (simp only [List.length_drop, List.length_take]; rfl)) ?_
                    with_reducible refine (spec_l7Has.calls kj2 _ _ l1 ((rd_T27 l0 x6_1).f0) true _ ?side1 ?side2 A10.out).mono ?_
                    (case side1 => repeat (first | exact (Kd.C_below HR1.out HB.out) | (with_reducible refine Kd.C_alloc ?_ _) | (with_reducible refine Kd.C_drewN ?_ _) | (with_reducible refine Kd.C_drew ?_)))
                    (case side2 => exact HC1.out)
                    rintro e w' ⟨rfl, ⟨nd, rfl⟩⟩
                    refine ⟨_, rfl, ?_⟩
                    refine hK.out _ _ (mv14 HB.out hw103_0 hw103_1 hw103_2 hw103_3 hw103_4 hw103_5 hw103_6 hw103_7 hw103_8 hw103_9 hw103_10 hw103_11 hw103_12 hw103_13 :) (fun hHeld => ?_)
                    clear hK K
                    refine nQ (N := some 23) ?_
                    refine pQ (i := 7) (N := some 24) #[yy,yy,yy,yy,yy,yy,yy,yy,nn,nn,nn,nn,nn,nn,nn,nn,nn,nn,nn,nn,nn,nn] (any_of HT_.out (by kernel_rfl)) ?_
                    refine pQ (i := 8) (N := some 25) #[yy,yy,yy,yy,yy,yy,yy,yy,yy,nn,nn,nn,nn,nn,nn,nn,nn,nn,nn,nn,nn,nn] (any_of HT_.out (by kernel_rfl)) ?_
                    refine pQ (i := 9) (N := some 26) #[yy,yy,yy,yy,yy,yy,yy,yy,yy,yy,nn,nn,nn,nn,nn,nn,nn,nn,nn,nn,nn,nn] (any_of HT_.out (by kernel_rfl)) ?_
                    refine pQ (i := 10) (N := some 27) #[yy,yy,yy,yy,yy,yy,yy,yy,yy,yy,yy,nn,nn,nn,nn,nn,nn,nn,nn,nn,nn,nn] (any_of HT_.out (by kernel_rfl)) ?_
                    refine pure_ (i := 11) (N := some 28) (v := undef) (a' := ?_) #[yy,yy,yy,yy,yy,yy,yy,yy,yy,yy,yy,yy,nn,nn,nn,nn,nn,nn,nn,nn,nn,nn] rfl rfl (any_of HT_.out (by kernel_rfl)) (fun _ _ _ h => h) (Or.inr ⟨by rfl, rfl⟩) ?_ ?_
                    rotate_left
                    · simp only [Act.put, tA, tB, tC, i64_w, i32_w]
                      rfl
                    refine pure_ (i := 12) (N := some 29) (v := undef) (a' := ?_) #[yy,yy,yy,yy,yy,yy,yy,yy,yy,yy,yy,yy,yy,nn,nn,nn,nn,nn,nn,nn,nn,nn] rfl rfl (any_of HT_.out (by kernel_rfl)) (fun _ _ _ h => h) (Or.inr ⟨by rfl, rfl⟩) ?_ ?_
                    rotate_left
                    · simp only [Act.put, tA, tB, tC, i64_w, i32_w]
                      rfl
                    refine pure_ (i := 13) (N := some 30) (v := undef) (a' := ?_) #[yy,yy,yy,yy,yy,yy,yy,yy,yy,yy,yy,yy,yy,yy,nn,nn,nn,nn,nn,nn,nn,nn] rfl rfl (any_of HT_.out (by kernel_rfl)) (fun _ _ _ h => h) (Or.inr ⟨by rfl, rfl⟩) ?_ ?_
                    rotate_left
                    · simp only [Act.put, tA, tB, tC, i64_w, i32_w]
                      rfl
                    refine pure_ (i := 14) (N := some 31) (v := undef) (a' := ?_) #[yy,yy,yy,yy,yy,yy,yy,yy,yy,yy,yy,yy,yy,yy,yy,nn,nn,nn,nn,nn,nn,nn] rfl rfl (any_of HT_.out (by kernel_rfl)) (fun _ _ _ h => h) (Or.inr ⟨by rfl, rfl⟩) ?_ ?_
                    rotate_left
                    · simp only [Act.put, tA, tB, tC, i64_w, i32_w]
                      rfl
                    refine pure_ (i := 15) (N := some 32) (v := undef) (a' := ?_) #[yy,yy,yy,yy,yy,yy,yy,yy,yy,yy,yy,yy,yy,yy,yy,yy,nn,nn,nn,nn,nn,nn] rfl rfl (any_of HT_.out (by kernel_rfl)) (fun _ _ _ h => h) (Or.inr ⟨by rfl, rfl⟩) ?_ ?_
                    rotate_left
                    · simp only [Act.put, tA, tB, tC, i64_w, i32_w]
                      rfl
                    refine pure_ (i := 16) (N := some 33) (v := undef) (a' := ?_) #[yy,yy,yy,yy,yy,yy,yy,yy,yy,yy,yy,yy,yy,yy,yy,yy,yy,nn,nn,nn,nn,nn] rfl rfl (any_of HT_.out (by kernel_rfl)) (fun _ _ _ h => h) (Or.inr ⟨by rfl, rfl⟩) ?_ ?_
                    rotate_left
                    · simp only [Act.put, tA, tB, tC, i64_w, i32_w]
                      rfl
                    refine pure_ (i := 17) (N := some 34) (v := undef) (a' := ?_) #[yy,yy,yy,yy,yy,yy,yy,yy,yy,yy,yy,yy,yy,yy,yy,yy,yy,yy,nn,nn,nn,nn] rfl rfl (any_of HT_.out (by kernel_rfl)) (fun _ _ _ h => h) (Or.inr ⟨by rfl, rfl⟩) ?_ ?_
                    rotate_left
                    · simp only [Act.put, tA, tB, tC, i64_w, i32_w]
                      rfl
                    refine pure_ (i := 18) (N := some 35) (v := undef) (a' := ?_) #[yy,yy,yy,yy,yy,yy,yy,yy,yy,yy,yy,yy,yy,yy,yy,yy,yy,yy,yy,nn,nn,nn] rfl rfl (any_of HT_.out (by kernel_rfl)) (fun _ _ _ h => h) (Or.inr ⟨by rfl, rfl⟩) ?_ ?_
                    rotate_left
                    · simp only [Act.put, tA, tB, tC, i64_w, i32_w]
                      rfl
                    refine pure_ (i := 19) (N := some 36) (v := undef) (a' := ?_) #[yy,yy,yy,yy,yy,yy,yy,yy,yy,yy,yy,yy,yy,yy,yy,yy,yy,yy,yy,yy,nn,nn] rfl rfl (any_of HT_.out (by kernel_rfl)) (fun _ _ _ h => h) (Or.inr ⟨by rfl, rfl⟩) ?_ ?_
                    rotate_left
                    · simp only [Act.put, tA, tB, tC, i64_w, i32_w]
                      rfl
                    refine pQ (i := 20) (N := some 37) #[yy,yy,yy,yy,yy,yy,yy,yy,yy,yy,yy,yy,yy,yy,yy,yy,yy,yy,yy,yy,yy,nn] (any_of HT_.out (by kernel_rfl)) ?_
                    refine pQ (i := 21) (N := some 38) #[yy,yy,yy,yy,yy,yy,yy,yy,yy,yy,yy,yy,yy,yy,yy,yy,yy,yy,yy,yy,yy,yy] (any_of HT_.out (by kernel_rfl)) ?_
                    refine done_ (done_of HT_.out (by kernel_rfl)) ?_
                    try go_wp2
                    go_roundg kj2
                    case measure => have := HK1.out; have := HJ2.out; omega
                    case rel => exact ⟨(x6_1), (wrap64 (x6_1 + 1)), (by first | rfl | (simp; done) | (simp [*]; done)), (by first | rfl | (simp; done) | (simp [*]; done)), H', ⟨by have := HK1.out; have := HJ2.out; omega⟩, ⟨bq HB⟩⟩
                  rw [if_neg c12] at H
                  have c12b0 : decide (x5_1 < 0) = false := decide_eq_false c12
                  clear c12
                  by_cases c14 : 0 ≤ x5_1
                  · rw [if_pos c14] at H
                    have c14b0 : decide (0 ≤ x5_1) = true := decide_eq_true c14
                    clear c14
                    by_cases c15 : x5_1 < (l0.length : Int)
                    · rw [if_pos c15] at H
                      have c15b0 : decide (x5_1 < (l0.length : Int)) = true := decide_eq_true c15
                      clear c15
                      replace H := Option.bind_eq_some_iff.mp H
                      obtain ⟨t107, A160, H⟩ := H
                      replace H : (if t107 = true then (spec_BestOf.l0 kj2 l0 l1 x6_1 (wrap64 (x6_1 + 1))) else (spec_BestOf.l0 kj2 l0 l1 x5_1 (wrap64 (x6_1 + 1)))) = some r := H
                      have A16 := Aside0.mk A160
                      clear A160
                      by_cases c17 : t107 = true
                      · subst c17
                        have H1 : (spec_BestOf.l0 kj2 l0 l1 x6_1 (wrap64 (x6_1 + 1))) = some r := by rw [if_pos rfl] at H; exact H
                        clear H
                        have H := H1
                        clear H1
                        have H' := Aside0.mk H
                        clear H
                        try go_wp2
                        have n0_ := aM (below_drew1 HB.out)
                        clear HB
                        have HB := n0_
                        clear n0_
                        have p103 : 0 ≤ (x6_1 : Int) := of_decide_eq_true (by first | (with_reducible assumption) | assumption)
                        have q103 : x6_1 < (l0.length : Int) := of_decide_eq_true (by first | (with_reducible assumption) | assumption)
                        obtain ⟨ad103, e103, hx103_0, hx103_1, hx103_2, hx103_3, hx103_4, hx103_5, hx103_6, hx103_7, hx103_8, hx103_9, hx103_10, hx103_11, hx103_12, hx103_13⟩ := at_T27 HR0.out x6_1 p103 q103
                        have hw103_13 := hx103_13
                        have hw103_12 := hx103_12
                        have hw103_11 := hx103_11
                        have hw103_10 := hx103_10
                        have hw103_9 := hx103_9
                        have hw103_8 := hx103_8
                        have hw103_7 := hx103_7
                        have hw103_6 := hx103_6
                        have hw103_5 := hx103_5
                        have hw103_4 := hx103_4
                        have hw103_3 := hx103_3
                        have hw103_2 := hx103_2
                        have hw103_1 := hx103_1
                        have hw103_0 := hx103_0
                        cases e103
                        have hmv_ := mv14 HB.out hx103_0 hx103_1 hx103_2 hx103_3 hx103_4 hx103_5 hx103_6 hx103_7 hx103_8 hx103_9 hx103_10 hx103_11 hx103_12 hx103_13
                        clear hx103_0 hx103_1 hx103_2 hx103_3 hx103_4 hx103_5 hx103_6 hx103_7 hx103_8 hx103_9 hx103_10 hx103_11 hx103_12 hx103_13
                        obtain ⟨hx103_0, hx103_1, hx103_2, hx103_3, hx103_4, hx103_5, hx103_6, hx103_7, hx103_8, hx103_9, hx103_10, hx103_11, hx103_12, hx103_13⟩ := hmv_
                        replace p103 := eq_true p103
                        replace q103 := eq_true q103
                        have p105 : 0 ≤ (x6_1 : Int) := of_decide_eq_true (by first | (with_reducible assumption) | assumption)
                        have q105 : x6_1 < (l0.length : Int) := of_decide_eq_true (by first | (with_reducible assumption) | assumption)
                        obtain ⟨ad105, e105, hx105_0, hx105_1, hx105_2, hx105_3, hx105_4, hx105_5, hx105_6, hx105_7, hx105_8, hx105_9, hx105_10, hx105_11, hx105_12, hx105_13⟩ := at_T27 HR0.out x6_1 p105 q105
                        have hw105_13 := hx105_13
                        have hw105_12 := hx105_12
                        have hw105_11 := hx105_11
                        have hw105_10 := hx105_10
                        have hw105_9 := hx105_9
                        have hw105_8 := hx105_8
                        have hw105_7 := hx105_7
                        have hw105_6 := hx105_6
                        have hw105_5 := hx105_5
                        have hw105_4 := hx105_4
                        have hw105_3 := hx105_3
                        have hw105_2 := hx105_2
                        have hw105_1 := hx105_1
                        have hw105_0 := hx105_0
                        obtain rfl : ad103 = ad105 := (by injection e105)
                        have hmv_ := mv14 HB.out hx105_0 hx105_1 hx105_2 hx105_3 hx105_4 hx105_5 hx105_6 hx105_7 hx105_8 hx105_9 hx105_10 hx105_11 hx105_12 hx105_13
                        clear hx105_0 hx105_1 hx105_2 hx105_3 hx105_4 hx105_5 hx105_6 hx105_7 hx105_8 hx105_9 hx105_10 hx105_11 hx105_12 hx105_13
                        obtain ⟨hx105_0, hx105_1, hx105_2, hx105_3, hx105_4, hx105_5, hx105_6, hx105_7, hx105_8, hx105_9, hx105_10, hx105_11, hx105_12, hx105_13⟩ := hmv_
                        replace p105 := eq_true p105
                        replace q105 := eq_true q105
                        have p106 : 0 ≤ (x5_1 : Int) := of_decide_eq_true (by first | (with_reducible assumption) | assumption)
                        have q106 : x5_1 < (l0.length : Int) := of_decide_eq_true (by first | (with_reducible assumption) | assumption)
                        obtain ⟨ad106, e106, hx106_0, hx106_1, hx106_2, hx106_3, hx106_4, hx106_5, hx106_6, hx106_7, hx106_8, hx106_9, hx106_10, hx106_11, hx106_12, hx106_13⟩ := at_T27 HR0.out x5_1 p106 q106
                        have hw106_13 := hx106_13
                        have hw106_12 := hx106_12
                        have hw106_11 := hx106_11
                        have hw106_10 := hx106_10
                        have hw106_9 := hx106_9
                        have hw106_8 := hx106_8
                        have hw106_7 := hx106_7
                        have hw106_6 := hx106_6
                        have hw106_5 := hx106_5
                        have hw106_4 := hx106_4
                        have hw106_3 := hx106_3
                        have hw106_2 := hx106_2
                        have hw106_1 := hx106_1
                        have hw106_0 := hx106_0
                        obtain rfl : ad103 = ad106 := (by injection e106)
                        have hmv_ := mv14 HB.out hx106_0 hx106_1 hx106_2 hx106_3 hx106_4 hx106_5 hx106_6 hx106_7 hx106_8 hx106_9 hx106_10 hx106_11 hx106_12 hx106_13
                        clear hx106_0 hx106_1 hx106_2 hx106_3 hx106_4 hx106_5 hx106_6 hx106_7 hx106_8 hx106_9 hx106_10 hx106_11 hx106_12 hx106_13
                        obtain ⟨hx106_0, hx106_1, hx106_2, hx106_3, hx106_4, hx106_5, hx106_6, hx106_7, hx106_8, hx106_9, hx106_10, hx106_11, hx106_12, hx106_13⟩ := hmv_
                        replace p106 := eq_true p106
                        replace q106 := eq_true q106
                        refine start_ (n := 22) (S := fun w' => ca14t w' (ad103.add ((x6_1).toNat * 14)) (.int .i64 ((rd_T27 l0 x6_1).f0)) (.int .i64 ((rd_T27 l0 x6_1).f1)) (.int .i64 ((rd_T27 l0 x6_1).f2)) (.int .i64 ((rd_T27 l0 x6_1).f3)) (.bool ((rd_T27 l0 x6_1).f4)) (.int .i64 ((rd_T27 l0 x6_1).f5)) (.int .i64 ((rd_T27 l0 x6_1).f6)) (.int .i64 ((rd_T27 l0 x6_1).f7)) (.int .i64 ((rd_T27 l0 x6_1).f8)) (.int .i64 ((rd_T27 l0 x6_1).f9)) (.int .i64 ((rd_T27 l0 x6_1).f10)) (.int .i64 ((rd_T27 l0 x6_1).f11)) (.int .i64 ((rd_T27 l0 x6_1).f12)) (.int .i64 ((rd_T27 l0 x6_1).f13)) (ca14t w' (ad103.add ((x6_1).toNat * 14)) (.int .i64 ((rd_T27 l0 x6_1).f0)) (.int .i64 ((rd_T27 l0 x6_1).f1)) (.int .i64 ((rd_T27 l0 x6_1).f2)) (.int .i64 ((rd_T27 l0 x6_1).f3)) (.bool ((rd_T27 l0 x6_1).f4)) (.int .i64 ((rd_T27 l0 x6_1).f5)) (.int .i64 ((rd_T27 l0 x6_1).f6)) (.int .i64 ((rd_T27 l0 x6_1).f7)) (.int .i64 ((rd_T27 l0 x6_1).f8)) (.int .i64 ((rd_T27 l0 x6_1).f9)) (.int .i64 ((rd_T27 l0 x6_1).f10)) (.int .i64 ((rd_T27 l0 x6_1).f11)) (.int .i64 ((rd_T27 l0 x6_1).f12)) (.int .i64 ((rd_T27 l0 x6_1).f13)) (ca14 w' (ad103.add ((x5_1).toNat * 14)) (.int .i64 ((rd_T27 l0 x5_1).f0)) (.int .i64 ((rd_T27 l0 x5_1).f1)) (.int .i64 ((rd_T27 l0 x5_1).f2)) (.int .i64 ((rd_T27 l0 x5_1).f3)) (.bool ((rd_T27 l0 x5_1).f4)) (.int .i64 ((rd_T27 l0 x5_1).f5)) (.int .i64 ((rd_T27 l0 x5_1).f6)) (.int .i64 ((rd_T27 l0 x5_1).f7)) (.int .i64 ((rd_T27 l0 x5_1).f8)) (.int .i64 ((rd_T27 l0 x5_1).f9)) (.int .i64 ((rd_T27 l0 x5_1).f10)) (.int .i64 ((rd_T27 l0 x5_1).f11)) (.int .i64 ((rd_T27 l0 x5_1).f12)) (.int .i64 ((rd_T27 l0 x5_1).f13))))) (ds := []) #[nn,nn,nn,nn,nn,nn,nn,nn,nn,nn,nn,nn,nn,nn,nn,nn,nn,nn,nn,nn,nn,nn] (by kernel_rfl) rfl rfl ⟨((HB.out.cell (World.block_lt_of_cell? w _ hw103_0)).trans hw103_0), ((HB.out.cell (World.block_lt_of_cell? w _ hw103_1)).trans hw103_1), ((HB.out.cell (World.block_lt_of_cell? w _ hw103_2)).trans hw103_2), ((HB.out.cell (World.block_lt_of_cell? w _ hw103_3)).trans hw103_3), ((HB.out.cell (World.block_lt_of_cell? w _ hw103_4)).trans hw103_4), ((HB.out.cell (World.block_lt_of_cell? w _ hw103_5)).trans hw103_5), ((HB.out.cell (World.block_lt_of_cell? w _ hw103_6)).trans hw103_6), ((HB.out.cell (World.block_lt_of_cell? w _ hw103_7)).trans hw103_7), ((HB.out.cell (World.block_lt_of_cell? w _ hw103_8)).trans hw103_8), ((HB.out.cell (World.block_lt_of_cell? w _ hw103_9)).trans hw103_9), ((HB.out.cell (World.block_lt_of_cell? w _ hw103_10)).trans hw103_10), ((HB.out.cell (World.block_lt_of_cell? w _ hw103_11)).trans hw103_11), ((HB.out.cell (World.block_lt_of_cell? w _ hw103_12)).trans hw103_12), ((HB.out.cell (World.block_lt_of_cell? w _ hw103_13)).trans hw103_13), ((HB.out.cell (World.block_lt_of_cell? w _ hw105_0)).trans hw105_0), ((HB.out.cell (World.block_lt_of_cell? w _ hw105_1)).trans hw105_1), ((HB.out.cell (World.block_lt_of_cell? w _ hw105_2)).trans hw105_2), ((HB.out.cell (World.block_lt_of_cell? w _ hw105_3)).trans hw105_3), ((HB.out.cell (World.block_lt_of_cell? w _ hw105_4)).trans hw105_4), ((HB.out.cell (World.block_lt_of_cell? w _ hw105_5)).trans hw105_5), ((HB.out.cell (World.block_lt_of_cell? w _ hw105_6)).trans hw105_6), ((HB.out.cell (World.block_lt_of_cell? w _ hw105_7)).trans hw105_7), ((HB.out.cell (World.block_lt_of_cell? w _ hw105_8)).trans hw105_8), ((HB.out.cell (World.block_lt_of_cell? w _ hw105_9)).trans hw105_9), ((HB.out.cell (World.block_lt_of_cell? w _ hw105_10)).trans hw105_10), ((HB.out.cell (World.block_lt_of_cell? w _ hw105_11)).trans hw105_11), ((HB.out.cell (World.block_lt_of_cell? w _ hw105_12)).trans hw105_12), ((HB.out.cell (World.block_lt_of_cell? w _ hw105_13)).trans hw105_13), ((HB.out.cell (World.block_lt_of_cell? w _ hw106_0)).trans hw106_0), ((HB.out.cell (World.block_lt_of_cell? w _ hw106_1)).trans hw106_1), ((HB.out.cell (World.block_lt_of_cell? w _ hw106_2)).trans hw106_2), ((HB.out.cell (World.block_lt_of_cell? w _ hw106_3)).trans hw106_3), ((HB.out.cell (World.block_lt_of_cell? w _ hw106_4)).trans hw106_4), ((HB.out.cell (World.block_lt_of_cell? w _ hw106_5)).trans hw106_5), ((HB.out.cell (World.block_lt_of_cell? w _ hw106_6)).trans hw106_6), ((HB.out.cell (World.block_lt_of_cell? w _ hw106_7)).trans hw106_7), ((HB.out.cell (World.block_lt_of_cell? w _ hw106_8)).trans hw106_8), ((HB.out.cell (World.block_lt_of_cell? w _ hw106_9)).trans hw106_9), ((HB.out.cell (World.block_lt_of_cell? w _ hw106_10)).trans hw106_10), ((HB.out.cell (World.block_lt_of_cell? w _ hw106_11)).trans hw106_11), ((HB.out.cell (World.block_lt_of_cell? w _ hw106_12)).trans hw106_12), ((HB.out.cell (World.block_lt_of_cell? w _ hw106_13)).trans hw106_13)⟩ (fun hHeld => ?_); refine with_tabW spec_BestOf.tab5 spec_BestOf.bits5 (fun HT_ HW_ => ?_)
                        generalize wc.drew = w18 at HB hx103_0 hx103_1 hx103_10 hx103_11 hx103_12 hx103_13 hx103_2 hx103_3 hx103_4 hx103_5 hx103_6 hx103_7 hx103_8 hx103_9 hx105_0 hx105_1 hx105_10 hx105_11 hx105_12 hx105_13 hx105_2 hx105_3 hx105_4 hx105_5 hx105_6 hx105_7 hx105_8 hx105_9 hx106_0 hx106_1 hx106_10 hx106_11 hx106_12 hx106_13 hx106_2 hx106_3 hx106_4 hx106_5 hx106_6 hx106_7 hx106_8 hx106_9 hHeld ⊢
                        refine pQ (i := 0) (N := some 17) #[yy,nn,nn,nn,nn,nn,nn,nn,nn,nn,nn,nn,nn,nn,nn,nn,nn,nn,nn,nn,nn,nn] (any_of HT_.out (by kernel_rfl)) ?_
                        refine pQ (i := 1) (N := some 18) #[yy,yy,nn,nn,nn,nn,nn,nn,nn,nn,nn,nn,nn,nn,nn,nn,nn,nn,nn,nn,nn,nn] (any_of HT_.out (by kernel_rfl)) ?_
                        refine pQ (i := 2) (N := some 19) #[yy,yy,yy,nn,nn,nn,nn,nn,nn,nn,nn,nn,nn,nn,nn,nn,nn,nn,nn,nn,nn,nn] (any_of HT_.out (by kernel_rfl)) ?_
                        refine pQ (i := 3) (N := some 20) #[yy,yy,yy,yy,nn,nn,nn,nn,nn,nn,nn,nn,nn,nn,nn,nn,nn,nn,nn,nn,nn,nn] (any_of HT_.out (by kernel_rfl)) ?_
                        refine pQ (i := 4) (N := some 21) #[yy,yy,yy,yy,yy,nn,nn,nn,nn,nn,nn,nn,nn,nn,nn,nn,nn,nn,nn,nn,nn,nn] (any_of HT_.out (by kernel_rfl)) ?_
                        refine tQ (i := 5) (N := some 22) #[yy,yy,yy,yy,yy,yy,nn,nn,nn,nn,nn,nn,nn,nn,nn,nn,nn,nn,nn,nn,nn,nn] (take_ofW HT_.out HW_.out (by kernel_rfl)) hHeld ?_
                        refine one_ (i := 6) (N := some 23) #[yy,yy,yy,yy,yy,yy,yy,nn,nn,nn,nn,nn,nn,nn,nn,nn,nn,nn,nn,nn,nn,nn] rfl rfl (one_of HT_.out (by kernel_rfl)) (by decide) (fun K hK => ?_)
                        refine goes_ Try.func107 (by kernel_rfl) rfl #[.slice A1 l1.length c1, .int .i64 ((rd_T27 l0 x6_1).f0)] (by rfl) rfl rfl (by (try simp only [List.map_toArray, List.map_cons, List.map_nil]); first | done | rfl | (simp only [List.length_drop, List.length_take]; rfl)) ?_
                        with_reducible refine (spec_l7Has.calls kj2 _ _ l1 ((rd_T27 l0 x6_1).f0) true _ ?side1 ?side2 A10.out).mono ?_
                        (case side1 => repeat (first | exact (Kd.C_below HR1.out HB.out) | (with_reducible refine Kd.C_alloc ?_ _) | (with_reducible refine Kd.C_drewN ?_ _) | (with_reducible refine Kd.C_drew ?_)))
                        (case side2 => exact HC1.out)
                        rintro e w' ⟨rfl, ⟨nd, rfl⟩⟩
                        refine ⟨_, rfl, ?_⟩
                        refine hK.out _ _ (mvt14 HB.out hw103_0 hw103_1 hw103_2 hw103_3 hw103_4 hw103_5 hw103_6 hw103_7 hw103_8 hw103_9 hw103_10 hw103_11 hw103_12 hw103_13 (mvt14 HB.out hw105_0 hw105_1 hw105_2 hw105_3 hw105_4 hw105_5 hw105_6 hw105_7 hw105_8 hw105_9 hw105_10 hw105_11 hw105_12 hw105_13 (mv14 HB.out hw106_0 hw106_1 hw106_2 hw106_3 hw106_4 hw106_5 hw106_6 hw106_7 hw106_8 hw106_9 hw106_10 hw106_11 hw106_12 hw106_13)) :) (fun hHeld => ?_)
                        clear hK K
                        refine nQ (N := some 23) ?_
                        refine pQ (i := 7) (N := some 24) #[yy,yy,yy,yy,yy,yy,yy,yy,nn,nn,nn,nn,nn,nn,nn,nn,nn,nn,nn,nn,nn,nn] (any_of HT_.out (by kernel_rfl)) ?_
                        refine pQ (i := 8) (N := some 25) #[yy,yy,yy,yy,yy,yy,yy,yy,yy,nn,nn,nn,nn,nn,nn,nn,nn,nn,nn,nn,nn,nn] (any_of HT_.out (by kernel_rfl)) ?_
                        refine pQ (i := 9) (N := some 26) #[yy,yy,yy,yy,yy,yy,yy,yy,yy,yy,nn,nn,nn,nn,nn,nn,nn,nn,nn,nn,nn,nn] (any_of HT_.out (by kernel_rfl)) ?_
                        refine pQ (i := 10) (N := some 27) #[yy,yy,yy,yy,yy,yy,yy,yy,yy,yy,yy,nn,nn,nn,nn,nn,nn,nn,nn,nn,nn,nn] (any_of HT_.out (by kernel_rfl)) ?_
                        refine pQ (i := 11) (N := some 28) #[yy,yy,yy,yy,yy,yy,yy,yy,yy,yy,yy,yy,nn,nn,nn,nn,nn,nn,nn,nn,nn,nn] (any_of HT_.out (by kernel_rfl)) ?_
                        refine pQ (i := 12) (N := some 29) #[yy,yy,yy,yy,yy,yy,yy,yy,yy,yy,yy,yy,yy,nn,nn,nn,nn,nn,nn,nn,nn,nn] (any_of HT_.out (by kernel_rfl)) ?_
                        refine pQ (i := 13) (N := some 30) #[yy,yy,yy,yy,yy,yy,yy,yy,yy,yy,yy,yy,yy,yy,nn,nn,nn,nn,nn,nn,nn,nn] (any_of HT_.out (by kernel_rfl)) ?_
                        refine pQ (i := 15) (N := some 32) #[yy,yy,yy,yy,yy,yy,yy,yy,yy,yy,yy,yy,yy,yy,nn,yy,nn,nn,nn,nn,nn,nn] (any_of HT_.out (by kernel_rfl)) ?_
                        refine pQ (i := 16) (N := some 33) #[yy,yy,yy,yy,yy,yy,yy,yy,yy,yy,yy,yy,yy,yy,nn,yy,yy,nn,nn,nn,nn,nn] (any_of HT_.out (by kernel_rfl)) ?_
                        refine pQ (i := 17) (N := some 34) #[yy,yy,yy,yy,yy,yy,yy,yy,yy,yy,yy,yy,yy,yy,nn,yy,yy,yy,nn,nn,nn,nn] (any_of HT_.out (by kernel_rfl)) ?_
                        refine tQ (i := 14) (N := some 31) #[yy,yy,yy,yy,yy,yy,yy,yy,yy,yy,yy,yy,yy,yy,yy,yy,yy,yy,nn,nn,nn,nn] (take_ofW HT_.out HW_.out (by kernel_rfl)) hHeld ?_
                        refine tQ (i := 18) (N := some 35) #[yy,yy,yy,yy,yy,yy,yy,yy,yy,yy,yy,yy,yy,yy,yy,yy,yy,yy,yy,nn,nn,nn] (take_ofW HT_.out HW_.out (by kernel_rfl)) hHeld ?_
                        refine one_ (i := 19) (N := some 36) #[yy,yy,yy,yy,yy,yy,yy,yy,yy,yy,yy,yy,yy,yy,yy,yy,yy,yy,yy,yy,nn,nn] rfl rfl (one_of HT_.out (by kernel_rfl)) (by decide) (fun K hK => ?_)
                        refine goes_ Try.func32 (by kernel_rfl) rfl #[.agg #[.int .i64 ((rd_T27 l0 x6_1).f0), .int .i64 ((rd_T27 l0 x6_1).f1), .int .i64 ((rd_T27 l0 x6_1).f2), .int .i64 ((rd_T27 l0 x6_1).f3), .bool ((rd_T27 l0 x6_1).f4), .int .i64 ((rd_T27 l0 x6_1).f5), .int .i64 ((rd_T27 l0 x6_1).f6), .int .i64 ((rd_T27 l0 x6_1).f7), .int .i64 ((rd_T27 l0 x6_1).f8), .int .i64 ((rd_T27 l0 x6_1).f9), .int .i64 ((rd_T27 l0 x6_1).f10), .int .i64 ((rd_T27 l0 x6_1).f11), .int .i64 ((rd_T27 l0 x6_1).f12), .int .i64 ((rd_T27 l0 x6_1).f13)], .agg #[.int .i64 ((rd_T27 l0 x5_1).f0), .int .i64 ((rd_T27 l0 x5_1).f1), .int .i64 ((rd_T27 l0 x5_1).f2), .int .i64 ((rd_T27 l0 x5_1).f3), .bool ((rd_T27 l0 x5_1).f4), .int .i64 ((rd_T27 l0 x5_1).f5), .int .i64 ((rd_T27 l0 x5_1).f6), .int .i64 ((rd_T27 l0 x5_1).f7), .int .i64 ((rd_T27 l0 x5_1).f8), .int .i64 ((rd_T27 l0 x5_1).f9), .int .i64 ((rd_T27 l0 x5_1).f10), .int .i64 ((rd_T27 l0 x5_1).f11), .int .i64 ((rd_T27 l0 x5_1).f12), .int .i64 ((rd_T27 l0 x5_1).f13)]] (by rfl) rfl rfl (by (try simp only [List.map_toArray, List.map_cons, List.map_nil]); first | done | rfl | (simp only [List.length_drop, List.length_take]; rfl)) ?_
                        with_reducible refine (spec_Before.calls kj2 ((rd_T27 l0 x6_1).f0) ((rd_T27 l0 x6_1).f1) ((rd_T27 l0 x6_1).f2) ((rd_T27 l0 x6_1).f3) ((rd_T27 l0 x6_1).f4) ((rd_T27 l0 x6_1).f5) ((rd_T27 l0 x6_1).f6) ((rd_T27 l0 x6_1).f7) ((rd_T27 l0 x6_1).f8) ((rd_T27 l0 x6_1).f9) ((rd_T27 l0 x6_1).f10) ((rd_T27 l0 x6_1).f11) ((rd_T27 l0 x6_1).f12) ((rd_T27 l0 x6_1).f13) ((rd_T27 l0 x5_1).f0) ((rd_T27 l0 x5_1).f1) ((rd_T27 l0 x5_1).f2) ((rd_T27 l0 x5_1).f3) ((rd_T27 l0 x5_1).f4) ((rd_T27 l0 x5_1).f5) ((rd_T27 l0 x5_1).f6) ((rd_T27 l0 x5_1).f7) ((rd_T27 l0 x5_1).f8) ((rd_T27 l0 x5_1).f9) ((rd_T27 l0 x5_1).f10) ((rd_T27 l0 x5_1).f11) ((rd_T27 l0 x5_1).f12) ((rd_T27 l0 x5_1).f13) true _ A16.out).mono ?_
                        rintro e w19 ⟨rfl, hb⟩
                        refine ⟨_, rfl, ?_⟩
                        have n0_ := aM (below_step (bq HB) hb)
                        clear HB
                        have HB := n0_
                        clear n0_
                        (try clear hb)
                        (try clear hb2)
                        (try clear hk)
                        (try clear hi)
                        refine hK.out _ _ (mvt14 HB.out hw103_0 hw103_1 hw103_2 hw103_3 hw103_4 hw103_5 hw103_6 hw103_7 hw103_8 hw103_9 hw103_10 hw103_11 hw103_12 hw103_13 (mvt14 HB.out hw105_0 hw105_1 hw105_2 hw105_3 hw105_4 hw105_5 hw105_6 hw105_7 hw105_8 hw105_9 hw105_10 hw105_11 hw105_12 hw105_13 (mv14 HB.out hw106_0 hw106_1 hw106_2 hw106_3 hw106_4 hw106_5 hw106_6 hw106_7 hw106_8 hw106_9 hw106_10 hw106_11 hw106_12 hw106_13)) :) (fun hHeld => ?_)
                        clear hK K
                        refine nQ (N := some 36) ?_
                        refine pQ (i := 20) (N := some 37) #[yy,yy,yy,yy,yy,yy,yy,yy,yy,yy,yy,yy,yy,yy,yy,yy,yy,yy,yy,yy,yy,nn] (any_of HT_.out (by kernel_rfl)) ?_
                        refine pQ (i := 21) (N := some 38) #[yy,yy,yy,yy,yy,yy,yy,yy,yy,yy,yy,yy,yy,yy,yy,yy,yy,yy,yy,yy,yy,yy] (any_of HT_.out (by kernel_rfl)) ?_
                        refine done_ (done_of HT_.out (by kernel_rfl)) ?_
                        try go_wp2
                        go_roundg kj2
                        case measure => have := HK1.out; have := HJ2.out; omega
                        case rel => exact ⟨(x6_1), (wrap64 (x6_1 + 1)), (by first | rfl | (simp; done) | (simp [*]; done)), (by first | rfl | (simp; done) | (simp [*]; done)), H', ⟨by have := HK1.out; have := HJ2.out; omega⟩, ⟨bq HB⟩⟩
                      replace c17 := Bool.eq_false_iff.mpr c17
                      subst c17
                      have H1 : (spec_BestOf.l0 kj2 l0 l1 x5_1 (wrap64 (x6_1 + 1))) = some r := by rw [if_neg (show ¬ (false = true) by decide)] at H; exact H
                      clear H
                      have H := H1
                      clear H1
                      have H' := Aside0.mk H
                      clear H
                      try go_wp2
                      have n0_ := aM (below_drew1 HB.out)
                      clear HB
                      have HB := n0_
                      clear n0_
                      have p103 : 0 ≤ (x6_1 : Int) := of_decide_eq_true (by first | (with_reducible assumption) | assumption)
                      have q103 : x6_1 < (l0.length : Int) := of_decide_eq_true (by first | (with_reducible assumption) | assumption)
                      obtain ⟨ad103, e103, hx103_0, hx103_1, hx103_2, hx103_3, hx103_4, hx103_5, hx103_6, hx103_7, hx103_8, hx103_9, hx103_10, hx103_11, hx103_12, hx103_13⟩ := at_T27 HR0.out x6_1 p103 q103
                      have hw103_13 := hx103_13
                      have hw103_12 := hx103_12
                      have hw103_11 := hx103_11
                      have hw103_10 := hx103_10
                      have hw103_9 := hx103_9
                      have hw103_8 := hx103_8
                      have hw103_7 := hx103_7
                      have hw103_6 := hx103_6
                      have hw103_5 := hx103_5
                      have hw103_4 := hx103_4
                      have hw103_3 := hx103_3
                      have hw103_2 := hx103_2
                      have hw103_1 := hx103_1
                      have hw103_0 := hx103_0
                      cases e103
                      have hmv_ := mv14 HB.out hx103_0 hx103_1 hx103_2 hx103_3 hx103_4 hx103_5 hx103_6 hx103_7 hx103_8 hx103_9 hx103_10 hx103_11 hx103_12 hx103_13
                      clear hx103_0 hx103_1 hx103_2 hx103_3 hx103_4 hx103_5 hx103_6 hx103_7 hx103_8 hx103_9 hx103_10 hx103_11 hx103_12 hx103_13
                      obtain ⟨hx103_0, hx103_1, hx103_2, hx103_3, hx103_4, hx103_5, hx103_6, hx103_7, hx103_8, hx103_9, hx103_10, hx103_11, hx103_12, hx103_13⟩ := hmv_
                      replace p103 := eq_true p103
                      replace q103 := eq_true q103
                      have p105 : 0 ≤ (x6_1 : Int) := of_decide_eq_true (by first | (with_reducible assumption) | assumption)
                      have q105 : x6_1 < (l0.length : Int) := of_decide_eq_true (by first | (with_reducible assumption) | assumption)
                      obtain ⟨ad105, e105, hx105_0, hx105_1, hx105_2, hx105_3, hx105_4, hx105_5, hx105_6, hx105_7, hx105_8, hx105_9, hx105_10, hx105_11, hx105_12, hx105_13⟩ := at_T27 HR0.out x6_1 p105 q105
                      have hw105_13 := hx105_13
                      have hw105_12 := hx105_12
                      have hw105_11 := hx105_11
                      have hw105_10 := hx105_10
                      have hw105_9 := hx105_9
                      have hw105_8 := hx105_8
                      have hw105_7 := hx105_7
                      have hw105_6 := hx105_6
                      have hw105_5 := hx105_5
                      have hw105_4 := hx105_4
                      have hw105_3 := hx105_3
                      have hw105_2 := hx105_2
                      have hw105_1 := hx105_1
                      have hw105_0 := hx105_0
                      obtain rfl : ad103 = ad105 := (by injection e105)
                      have hmv_ := mv14 HB.out hx105_0 hx105_1 hx105_2 hx105_3 hx105_4 hx105_5 hx105_6 hx105_7 hx105_8 hx105_9 hx105_10 hx105_11 hx105_12 hx105_13
                      clear hx105_0 hx105_1 hx105_2 hx105_3 hx105_4 hx105_5 hx105_6 hx105_7 hx105_8 hx105_9 hx105_10 hx105_11 hx105_12 hx105_13
                      obtain ⟨hx105_0, hx105_1, hx105_2, hx105_3, hx105_4, hx105_5, hx105_6, hx105_7, hx105_8, hx105_9, hx105_10, hx105_11, hx105_12, hx105_13⟩ := hmv_
                      replace p105 := eq_true p105
                      replace q105 := eq_true q105
                      have p106 : 0 ≤ (x5_1 : Int) := of_decide_eq_true (by first | (with_reducible assumption) | assumption)
                      have q106 : x5_1 < (l0.length : Int) := of_decide_eq_true (by first | (with_reducible assumption) | assumption)
                      obtain ⟨ad106, e106, hx106_0, hx106_1, hx106_2, hx106_3, hx106_4, hx106_5, hx106_6, hx106_7, hx106_8, hx106_9, hx106_10, hx106_11, hx106_12, hx106_13⟩ := at_T27 HR0.out x5_1 p106 q106
                      have hw106_13 := hx106_13
                      have hw106_12 := hx106_12
                      have hw106_11 := hx106_11
                      have hw106_10 := hx106_10
                      have hw106_9 := hx106_9
                      have hw106_8 := hx106_8
                      have hw106_7 := hx106_7
                      have hw106_6 := hx106_6
                      have hw106_5 := hx106_5
                      have hw106_4 := hx106_4
                      have hw106_3 := hx106_3
                      have hw106_2 := hx106_2
                      have hw106_1 := hx106_1
                      have hw106_0 := hx106_0
                      obtain rfl : ad103 = ad106 := (by injection e106)
                      have hmv_ := mv14 HB.out hx106_0 hx106_1 hx106_2 hx106_3 hx106_4 hx106_5 hx106_6 hx106_7 hx106_8 hx106_9 hx106_10 hx106_11 hx106_12 hx106_13
                      clear hx106_0 hx106_1 hx106_2 hx106_3 hx106_4 hx106_5 hx106_6 hx106_7 hx106_8 hx106_9 hx106_10 hx106_11 hx106_12 hx106_13
                      obtain ⟨hx106_0, hx106_1, hx106_2, hx106_3, hx106_4, hx106_5, hx106_6, hx106_7, hx106_8, hx106_9, hx106_10, hx106_11, hx106_12, hx106_13⟩ := hmv_
                      replace p106 := eq_true p106
                      replace q106 := eq_true q106
                      refine start_ (n := 22) (S := fun w' => ca14t w' (ad103.add ((x6_1).toNat * 14)) (.int .i64 ((rd_T27 l0 x6_1).f0)) (.int .i64 ((rd_T27 l0 x6_1).f1)) (.int .i64 ((rd_T27 l0 x6_1).f2)) (.int .i64 ((rd_T27 l0 x6_1).f3)) (.bool ((rd_T27 l0 x6_1).f4)) (.int .i64 ((rd_T27 l0 x6_1).f5)) (.int .i64 ((rd_T27 l0 x6_1).f6)) (.int .i64 ((rd_T27 l0 x6_1).f7)) (.int .i64 ((rd_T27 l0 x6_1).f8)) (.int .i64 ((rd_T27 l0 x6_1).f9)) (.int .i64 ((rd_T27 l0 x6_1).f10)) (.int .i64 ((rd_T27 l0 x6_1).f11)) (.int .i64 ((rd_T27 l0 x6_1).f12)) (.int .i64 ((rd_T27 l0 x6_1).f13)) (ca14t w' (ad103.add ((x6_1).toNat * 14)) (.int .i64 ((rd_T27 l0 x6_1).f0)) (.int .i64 ((rd_T27 l0 x6_1).f1)) (.int .i64 ((rd_T27 l0 x6_1).f2)) (.int .i64 ((rd_T27 l0 x6_1).f3)) (.bool ((rd_T27 l0 x6_1).f4)) (.int .i64 ((rd_T27 l0 x6_1).f5)) (.int .i64 ((rd_T27 l0 x6_1).f6)) (.int .i64 ((rd_T27 l0 x6_1).f7)) (.int .i64 ((rd_T27 l0 x6_1).f8)) (.int .i64 ((rd_T27 l0 x6_1).f9)) (.int .i64 ((rd_T27 l0 x6_1).f10)) (.int .i64 ((rd_T27 l0 x6_1).f11)) (.int .i64 ((rd_T27 l0 x6_1).f12)) (.int .i64 ((rd_T27 l0 x6_1).f13)) (ca14 w' (ad103.add ((x5_1).toNat * 14)) (.int .i64 ((rd_T27 l0 x5_1).f0)) (.int .i64 ((rd_T27 l0 x5_1).f1)) (.int .i64 ((rd_T27 l0 x5_1).f2)) (.int .i64 ((rd_T27 l0 x5_1).f3)) (.bool ((rd_T27 l0 x5_1).f4)) (.int .i64 ((rd_T27 l0 x5_1).f5)) (.int .i64 ((rd_T27 l0 x5_1).f6)) (.int .i64 ((rd_T27 l0 x5_1).f7)) (.int .i64 ((rd_T27 l0 x5_1).f8)) (.int .i64 ((rd_T27 l0 x5_1).f9)) (.int .i64 ((rd_T27 l0 x5_1).f10)) (.int .i64 ((rd_T27 l0 x5_1).f11)) (.int .i64 ((rd_T27 l0 x5_1).f12)) (.int .i64 ((rd_T27 l0 x5_1).f13))))) (ds := []) #[nn,nn,nn,nn,nn,nn,nn,nn,nn,nn,nn,nn,nn,nn,nn,nn,nn,nn,nn,nn,nn,nn] (by kernel_rfl) rfl rfl ⟨((HB.out.cell (World.block_lt_of_cell? w _ hw103_0)).trans hw103_0), ((HB.out.cell (World.block_lt_of_cell? w _ hw103_1)).trans hw103_1), ((HB.out.cell (World.block_lt_of_cell? w _ hw103_2)).trans hw103_2), ((HB.out.cell (World.block_lt_of_cell? w _ hw103_3)).trans hw103_3), ((HB.out.cell (World.block_lt_of_cell? w _ hw103_4)).trans hw103_4), ((HB.out.cell (World.block_lt_of_cell? w _ hw103_5)).trans hw103_5), ((HB.out.cell (World.block_lt_of_cell? w _ hw103_6)).trans hw103_6), ((HB.out.cell (World.block_lt_of_cell? w _ hw103_7)).trans hw103_7), ((HB.out.cell (World.block_lt_of_cell? w _ hw103_8)).trans hw103_8), ((HB.out.cell (World.block_lt_of_cell? w _ hw103_9)).trans hw103_9), ((HB.out.cell (World.block_lt_of_cell? w _ hw103_10)).trans hw103_10), ((HB.out.cell (World.block_lt_of_cell? w _ hw103_11)).trans hw103_11), ((HB.out.cell (World.block_lt_of_cell? w _ hw103_12)).trans hw103_12), ((HB.out.cell (World.block_lt_of_cell? w _ hw103_13)).trans hw103_13), ((HB.out.cell (World.block_lt_of_cell? w _ hw105_0)).trans hw105_0), ((HB.out.cell (World.block_lt_of_cell? w _ hw105_1)).trans hw105_1), ((HB.out.cell (World.block_lt_of_cell? w _ hw105_2)).trans hw105_2), ((HB.out.cell (World.block_lt_of_cell? w _ hw105_3)).trans hw105_3), ((HB.out.cell (World.block_lt_of_cell? w _ hw105_4)).trans hw105_4), ((HB.out.cell (World.block_lt_of_cell? w _ hw105_5)).trans hw105_5), ((HB.out.cell (World.block_lt_of_cell? w _ hw105_6)).trans hw105_6), ((HB.out.cell (World.block_lt_of_cell? w _ hw105_7)).trans hw105_7), ((HB.out.cell (World.block_lt_of_cell? w _ hw105_8)).trans hw105_8), ((HB.out.cell (World.block_lt_of_cell? w _ hw105_9)).trans hw105_9), ((HB.out.cell (World.block_lt_of_cell? w _ hw105_10)).trans hw105_10), ((HB.out.cell (World.block_lt_of_cell? w _ hw105_11)).trans hw105_11), ((HB.out.cell (World.block_lt_of_cell? w _ hw105_12)).trans hw105_12), ((HB.out.cell (World.block_lt_of_cell? w _ hw105_13)).trans hw105_13), ((HB.out.cell (World.block_lt_of_cell? w _ hw106_0)).trans hw106_0), ((HB.out.cell (World.block_lt_of_cell? w _ hw106_1)).trans hw106_1), ((HB.out.cell (World.block_lt_of_cell? w _ hw106_2)).trans hw106_2), ((HB.out.cell (World.block_lt_of_cell? w _ hw106_3)).trans hw106_3), ((HB.out.cell (World.block_lt_of_cell? w _ hw106_4)).trans hw106_4), ((HB.out.cell (World.block_lt_of_cell? w _ hw106_5)).trans hw106_5), ((HB.out.cell (World.block_lt_of_cell? w _ hw106_6)).trans hw106_6), ((HB.out.cell (World.block_lt_of_cell? w _ hw106_7)).trans hw106_7), ((HB.out.cell (World.block_lt_of_cell? w _ hw106_8)).trans hw106_8), ((HB.out.cell (World.block_lt_of_cell? w _ hw106_9)).trans hw106_9), ((HB.out.cell (World.block_lt_of_cell? w _ hw106_10)).trans hw106_10), ((HB.out.cell (World.block_lt_of_cell? w _ hw106_11)).trans hw106_11), ((HB.out.cell (World.block_lt_of_cell? w _ hw106_12)).trans hw106_12), ((HB.out.cell (World.block_lt_of_cell? w _ hw106_13)).trans hw106_13)⟩ (fun hHeld => ?_); refine with_tabW spec_BestOf.tab5 spec_BestOf.bits5 (fun HT_ HW_ => ?_)
                      generalize wc.drew = w20 at HB hx103_0 hx103_1 hx103_10 hx103_11 hx103_12 hx103_13 hx103_2 hx103_3 hx103_4 hx103_5 hx103_6 hx103_7 hx103_8 hx103_9 hx105_0 hx105_1 hx105_10 hx105_11 hx105_12 hx105_13 hx105_2 hx105_3 hx105_4 hx105_5 hx105_6 hx105_7 hx105_8 hx105_9 hx106_0 hx106_1 hx106_10 hx106_11 hx106_12 hx106_13 hx106_2 hx106_3 hx106_4 hx106_5 hx106_6 hx106_7 hx106_8 hx106_9 hHeld ⊢
                      refine pQ (i := 0) (N := some 17) #[yy,nn,nn,nn,nn,nn,nn,nn,nn,nn,nn,nn,nn,nn,nn,nn,nn,nn,nn,nn,nn,nn] (any_of HT_.out (by kernel_rfl)) ?_
                      refine pQ (i := 1) (N := some 18) #[yy,yy,nn,nn,nn,nn,nn,nn,nn,nn,nn,nn,nn,nn,nn,nn,nn,nn,nn,nn,nn,nn] (any_of HT_.out (by kernel_rfl)) ?_
                      refine pQ (i := 2) (N := some 19) #[yy,yy,yy,nn,nn,nn,nn,nn,nn,nn,nn,nn,nn,nn,nn,nn,nn,nn,nn,nn,nn,nn] (any_of HT_.out (by kernel_rfl)) ?_
                      refine pQ (i := 3) (N := some 20) #[yy,yy,yy,yy,nn,nn,nn,nn,nn,nn,nn,nn,nn,nn,nn,nn,nn,nn,nn,nn,nn,nn] (any_of HT_.out (by kernel_rfl)) ?_
                      refine pQ (i := 4) (N := some 21) #[yy,yy,yy,yy,yy,nn,nn,nn,nn,nn,nn,nn,nn,nn,nn,nn,nn,nn,nn,nn,nn,nn] (any_of HT_.out (by kernel_rfl)) ?_
                      refine tQ (i := 5) (N := some 22) #[yy,yy,yy,yy,yy,yy,nn,nn,nn,nn,nn,nn,nn,nn,nn,nn,nn,nn,nn,nn,nn,nn] (take_ofW HT_.out HW_.out (by kernel_rfl)) hHeld ?_
                      refine one_ (i := 6) (N := some 23) #[yy,yy,yy,yy,yy,yy,yy,nn,nn,nn,nn,nn,nn,nn,nn,nn,nn,nn,nn,nn,nn,nn] rfl rfl (one_of HT_.out (by kernel_rfl)) (by decide) (fun K hK => ?_)
                      refine goes_ Try.func107 (by kernel_rfl) rfl #[.slice A1 l1.length c1, .int .i64 ((rd_T27 l0 x6_1).f0)] (by rfl) rfl rfl (by (try simp only [List.map_toArray, List.map_cons, List.map_nil]); first | done | rfl | (simp only [List.length_drop, List.length_take]; rfl)) ?_
                      with_reducible refine (spec_l7Has.calls kj2 _ _ l1 ((rd_T27 l0 x6_1).f0) true _ ?side1 ?side2 A10.out).mono ?_
                      (case side1 => repeat (first | exact (Kd.C_below HR1.out HB.out) | (with_reducible refine Kd.C_alloc ?_ _) | (with_reducible refine Kd.C_drewN ?_ _) | (with_reducible refine Kd.C_drew ?_)))
                      (case side2 => exact HC1.out)
                      rintro e w' ⟨rfl, ⟨nd, rfl⟩⟩
                      refine ⟨_, rfl, ?_⟩
                      refine hK.out _ _ (mvt14 HB.out hw103_0 hw103_1 hw103_2 hw103_3 hw103_4 hw103_5 hw103_6 hw103_7 hw103_8 hw103_9 hw103_10 hw103_11 hw103_12 hw103_13 (mvt14 HB.out hw105_0 hw105_1 hw105_2 hw105_3 hw105_4 hw105_5 hw105_6 hw105_7 hw105_8 hw105_9 hw105_10 hw105_11 hw105_12 hw105_13 (mv14 HB.out hw106_0 hw106_1 hw106_2 hw106_3 hw106_4 hw106_5 hw106_6 hw106_7 hw106_8 hw106_9 hw106_10 hw106_11 hw106_12 hw106_13)) :) (fun hHeld => ?_)
                      clear hK K
                      refine nQ (N := some 23) ?_
                      refine pQ (i := 7) (N := some 24) #[yy,yy,yy,yy,yy,yy,yy,yy,nn,nn,nn,nn,nn,nn,nn,nn,nn,nn,nn,nn,nn,nn] (any_of HT_.out (by kernel_rfl)) ?_
                      refine pQ (i := 8) (N := some 25) #[yy,yy,yy,yy,yy,yy,yy,yy,yy,nn,nn,nn,nn,nn,nn,nn,nn,nn,nn,nn,nn,nn] (any_of HT_.out (by kernel_rfl)) ?_
                      refine pQ (i := 9) (N := some 26) #[yy,yy,yy,yy,yy,yy,yy,yy,yy,yy,nn,nn,nn,nn,nn,nn,nn,nn,nn,nn,nn,nn] (any_of HT_.out (by kernel_rfl)) ?_
                      refine pQ (i := 10) (N := some 27) #[yy,yy,yy,yy,yy,yy,yy,yy,yy,yy,yy,nn,nn,nn,nn,nn,nn,nn,nn,nn,nn,nn] (any_of HT_.out (by kernel_rfl)) ?_
                      refine pQ (i := 11) (N := some 28) #[yy,yy,yy,yy,yy,yy,yy,yy,yy,yy,yy,yy,nn,nn,nn,nn,nn,nn,nn,nn,nn,nn] (any_of HT_.out (by kernel_rfl)) ?_
                      refine pQ (i := 12) (N := some 29) #[yy,yy,yy,yy,yy,yy,yy,yy,yy,yy,yy,yy,yy,nn,nn,nn,nn,nn,nn,nn,nn,nn] (any_of HT_.out (by kernel_rfl)) ?_
                      refine pQ (i := 13) (N := some 30) #[yy,yy,yy,yy,yy,yy,yy,yy,yy,yy,yy,yy,yy,yy,nn,nn,nn,nn,nn,nn,nn,nn] (any_of HT_.out (by kernel_rfl)) ?_
                      refine pQ (i := 15) (N := some 32) #[yy,yy,yy,yy,yy,yy,yy,yy,yy,yy,yy,yy,yy,yy,nn,yy,nn,nn,nn,nn,nn,nn] (any_of HT_.out (by kernel_rfl)) ?_
                      refine pQ (i := 16) (N := some 33) #[yy,yy,yy,yy,yy,yy,yy,yy,yy,yy,yy,yy,yy,yy,nn,yy,yy,nn,nn,nn,nn,nn] (any_of HT_.out (by kernel_rfl)) ?_
                      refine pQ (i := 17) (N := some 34) #[yy,yy,yy,yy,yy,yy,yy,yy,yy,yy,yy,yy,yy,yy,nn,yy,yy,yy,nn,nn,nn,nn] (any_of HT_.out (by kernel_rfl)) ?_
                      refine tQ (i := 14) (N := some 31) #[yy,yy,yy,yy,yy,yy,yy,yy,yy,yy,yy,yy,yy,yy,yy,yy,yy,yy,nn,nn,nn,nn] (take_ofW HT_.out HW_.out (by kernel_rfl)) hHeld ?_
                      refine tQ (i := 18) (N := some 35) #[yy,yy,yy,yy,yy,yy,yy,yy,yy,yy,yy,yy,yy,yy,yy,yy,yy,yy,yy,nn,nn,nn] (take_ofW HT_.out HW_.out (by kernel_rfl)) hHeld ?_
                      refine one_ (i := 19) (N := some 36) #[yy,yy,yy,yy,yy,yy,yy,yy,yy,yy,yy,yy,yy,yy,yy,yy,yy,yy,yy,yy,nn,nn] rfl rfl (one_of HT_.out (by kernel_rfl)) (by decide) (fun K hK => ?_)
                      refine goes_ Try.func32 (by kernel_rfl) rfl #[.agg #[.int .i64 ((rd_T27 l0 x6_1).f0), .int .i64 ((rd_T27 l0 x6_1).f1), .int .i64 ((rd_T27 l0 x6_1).f2), .int .i64 ((rd_T27 l0 x6_1).f3), .bool ((rd_T27 l0 x6_1).f4), .int .i64 ((rd_T27 l0 x6_1).f5), .int .i64 ((rd_T27 l0 x6_1).f6), .int .i64 ((rd_T27 l0 x6_1).f7), .int .i64 ((rd_T27 l0 x6_1).f8), .int .i64 ((rd_T27 l0 x6_1).f9), .int .i64 ((rd_T27 l0 x6_1).f10), .int .i64 ((rd_T27 l0 x6_1).f11), .int .i64 ((rd_T27 l0 x6_1).f12), .int .i64 ((rd_T27 l0 x6_1).f13)], .agg #[.int .i64 ((rd_T27 l0 x5_1).f0), .int .i64 ((rd_T27 l0 x5_1).f1), .int .i64 ((rd_T27 l0 x5_1).f2), .int .i64 ((rd_T27 l0 x5_1).f3), .bool ((rd_T27 l0 x5_1).f4), .int .i64 ((rd_T27 l0 x5_1).f5), .int .i64 ((rd_T27 l0 x5_1).f6), .int .i64 ((rd_T27 l0 x5_1).f7), .int .i64 ((rd_T27 l0 x5_1).f8), .int .i64 ((rd_T27 l0 x5_1).f9), .int .i64 ((rd_T27 l0 x5_1).f10), .int .i64 ((rd_T27 l0 x5_1).f11), .int .i64 ((rd_T27 l0 x5_1).f12), .int .i64 ((rd_T27 l0 x5_1).f13)]] (by rfl) rfl rfl (by (try simp only [List.map_toArray, List.map_cons, List.map_nil]); first | done | rfl | (simp only [List.length_drop, List.length_take]; rfl)) ?_
                      with_reducible refine (spec_Before.calls kj2 ((rd_T27 l0 x6_1).f0) ((rd_T27 l0 x6_1).f1) ((rd_T27 l0 x6_1).f2) ((rd_T27 l0 x6_1).f3) ((rd_T27 l0 x6_1).f4) ((rd_T27 l0 x6_1).f5) ((rd_T27 l0 x6_1).f6) ((rd_T27 l0 x6_1).f7) ((rd_T27 l0 x6_1).f8) ((rd_T27 l0 x6_1).f9) ((rd_T27 l0 x6_1).f10) ((rd_T27 l0 x6_1).f11) ((rd_T27 l0 x6_1).f12) ((rd_T27 l0 x6_1).f13) ((rd_T27 l0 x5_1).f0) ((rd_T27 l0 x5_1).f1) ((rd_T27 l0 x5_1).f2) ((rd_T27 l0 x5_1).f3) ((rd_T27 l0 x5_1).f4) ((rd_T27 l0 x5_1).f5) ((rd_T27 l0 x5_1).f6) ((rd_T27 l0 x5_1).f7) ((rd_T27 l0 x5_1).f8) ((rd_T27 l0 x5_1).f9) ((rd_T27 l0 x5_1).f10) ((rd_T27 l0 x5_1).f11) ((rd_T27 l0 x5_1).f12) ((rd_T27 l0 x5_1).f13) false _ A16.out).mono ?_
                      rintro e w21 ⟨rfl, hb⟩
                      refine ⟨_, rfl, ?_⟩
                      have n0_ := aM (below_step (bq HB) hb)
                      clear HB
                      have HB := n0_
                      clear n0_
                      (try clear hb)
                      (try clear hb2)
                      (try clear hk)
                      (try clear hi)
                      refine hK.out _ _ (mvt14 HB.out hw103_0 hw103_1 hw103_2 hw103_3 hw103_4 hw103_5 hw103_6 hw103_7 hw103_8 hw103_9 hw103_10 hw103_11 hw103_12 hw103_13 (mvt14 HB.out hw105_0 hw105_1 hw105_2 hw105_3 hw105_4 hw105_5 hw105_6 hw105_7 hw105_8 hw105_9 hw105_10 hw105_11 hw105_12 hw105_13 (mv14 HB.out hw106_0 hw106_1 hw106_2 hw106_3 hw106_4 hw106_5 hw106_6 hw106_7 hw106_8 hw106_9 hw106_10 hw106_11 hw106_12 hw106_13)) :) (fun hHeld => ?_)
                      clear hK K
                      refine nQ (N := some 36) ?_
                      refine pQ (i := 20) (N := some 37) #[yy,yy,yy,yy,yy,yy,yy,yy,yy,yy,yy,yy,yy,yy,yy,yy,yy,yy,yy,yy,yy,nn] (any_of HT_.out (by kernel_rfl)) ?_
                      refine pQ (i := 21) (N := some 38) #[yy,yy,yy,yy,yy,yy,yy,yy,yy,yy,yy,yy,yy,yy,yy,yy,yy,yy,yy,yy,yy,yy] (any_of HT_.out (by kernel_rfl)) ?_
                      refine done_ (done_of HT_.out (by kernel_rfl)) ?_
                      try go_wp2
                      go_roundg kj2
                      case measure => have := HK1.out; have := HJ2.out; omega
                      case rel => exact ⟨(x5_1), (wrap64 (x6_1 + 1)), (by first | rfl | (simp; done) | (simp [*]; done)), (by first | rfl | (simp; done) | (simp [*]; done)), H', ⟨by have := HK1.out; have := HJ2.out; omega⟩, ⟨bq HB⟩⟩
                    rw [if_neg c15] at H
                    exact absurd H (by simp)
                  rw [if_neg c14] at H
                  exact absurd H (by simp)
                replace c11 := Bool.eq_false_iff.mpr c11
                subst c11
                have H1 : (spec_BestOf.l0 kj2 l0 l1 x5_1 (wrap64 (x6_1 + 1))) = some r := by rw [if_neg (show ¬ (false = true) by decide)] at H; exact H
                clear H
                have H := H1
                clear H1
                have H' := Aside0.mk H
                clear H
                try go_wp2
                have n0_ := aM (below_drew1 HB.out)
                clear HB
                have HB := n0_
                clear n0_
                have p103 : 0 ≤ (x6_1 : Int) := of_decide_eq_true (by first | (with_reducible assumption) | assumption)
                have q103 : x6_1 < (l0.length : Int) := of_decide_eq_true (by first | (with_reducible assumption) | assumption)
                obtain ⟨ad103, e103, hx103_0, hx103_1, hx103_2, hx103_3, hx103_4, hx103_5, hx103_6, hx103_7, hx103_8, hx103_9, hx103_10, hx103_11, hx103_12, hx103_13⟩ := at_T27 HR0.out x6_1 p103 q103
                have hw103_13 := hx103_13
                have hw103_12 := hx103_12
                have hw103_11 := hx103_11
                have hw103_10 := hx103_10
                have hw103_9 := hx103_9
                have hw103_8 := hx103_8
                have hw103_7 := hx103_7
                have hw103_6 := hx103_6
                have hw103_5 := hx103_5
                have hw103_4 := hx103_4
                have hw103_3 := hx103_3
                have hw103_2 := hx103_2
                have hw103_1 := hx103_1
                have hw103_0 := hx103_0
                cases e103
                have hmv_ := mv14 HB.out hx103_0 hx103_1 hx103_2 hx103_3 hx103_4 hx103_5 hx103_6 hx103_7 hx103_8 hx103_9 hx103_10 hx103_11 hx103_12 hx103_13
                clear hx103_0 hx103_1 hx103_2 hx103_3 hx103_4 hx103_5 hx103_6 hx103_7 hx103_8 hx103_9 hx103_10 hx103_11 hx103_12 hx103_13
                obtain ⟨hx103_0, hx103_1, hx103_2, hx103_3, hx103_4, hx103_5, hx103_6, hx103_7, hx103_8, hx103_9, hx103_10, hx103_11, hx103_12, hx103_13⟩ := hmv_
                replace p103 := eq_true p103
                replace q103 := eq_true q103
                refine start_ (n := 22) (S := fun w' => ca14 w' (ad103.add ((x6_1).toNat * 14)) (.int .i64 ((rd_T27 l0 x6_1).f0)) (.int .i64 ((rd_T27 l0 x6_1).f1)) (.int .i64 ((rd_T27 l0 x6_1).f2)) (.int .i64 ((rd_T27 l0 x6_1).f3)) (.bool ((rd_T27 l0 x6_1).f4)) (.int .i64 ((rd_T27 l0 x6_1).f5)) (.int .i64 ((rd_T27 l0 x6_1).f6)) (.int .i64 ((rd_T27 l0 x6_1).f7)) (.int .i64 ((rd_T27 l0 x6_1).f8)) (.int .i64 ((rd_T27 l0 x6_1).f9)) (.int .i64 ((rd_T27 l0 x6_1).f10)) (.int .i64 ((rd_T27 l0 x6_1).f11)) (.int .i64 ((rd_T27 l0 x6_1).f12)) (.int .i64 ((rd_T27 l0 x6_1).f13))) (ds := []) #[nn,nn,nn,nn,nn,nn,nn,nn,nn,nn,nn,nn,nn,nn,nn,nn,nn,nn,nn,nn,nn,nn] (by kernel_rfl) rfl rfl ⟨((HB.out.cell (World.block_lt_of_cell? w _ hw103_0)).trans hw103_0), ((HB.out.cell (World.block_lt_of_cell? w _ hw103_1)).trans hw103_1), ((HB.out.cell (World.block_lt_of_cell? w _ hw103_2)).trans hw103_2), ((HB.out.cell (World.block_lt_of_cell? w _ hw103_3)).trans hw103_3), ((HB.out.cell (World.block_lt_of_cell? w _ hw103_4)).trans hw103_4), ((HB.out.cell (World.block_lt_of_cell? w _ hw103_5)).trans hw103_5), ((HB.out.cell (World.block_lt_of_cell? w _ hw103_6)).trans hw103_6), ((HB.out.cell (World.block_lt_of_cell? w _ hw103_7)).trans hw103_7), ((HB.out.cell (World.block_lt_of_cell? w _ hw103_8)).trans hw103_8), ((HB.out.cell (World.block_lt_of_cell? w _ hw103_9)).trans hw103_9), ((HB.out.cell (World.block_lt_of_cell? w _ hw103_10)).trans hw103_10), ((HB.out.cell (World.block_lt_of_cell? w _ hw103_11)).trans hw103_11), ((HB.out.cell (World.block_lt_of_cell? w _ hw103_12)).trans hw103_12), ((HB.out.cell (World.block_lt_of_cell? w _ hw103_13)).trans hw103_13)⟩ (fun hHeld => ?_); refine with_tabW spec_BestOf.tab5 spec_BestOf.bits5 (fun HT_ HW_ => ?_)
                generalize wc.drew = w22 at HB hx103_0 hx103_1 hx103_10 hx103_11 hx103_12 hx103_13 hx103_2 hx103_3 hx103_4 hx103_5 hx103_6 hx103_7 hx103_8 hx103_9 hHeld ⊢
                refine pQ (i := 0) (N := some 17) #[yy,nn,nn,nn,nn,nn,nn,nn,nn,nn,nn,nn,nn,nn,nn,nn,nn,nn,nn,nn,nn,nn] (any_of HT_.out (by kernel_rfl)) ?_
                refine pQ (i := 1) (N := some 18) #[yy,yy,nn,nn,nn,nn,nn,nn,nn,nn,nn,nn,nn,nn,nn,nn,nn,nn,nn,nn,nn,nn] (any_of HT_.out (by kernel_rfl)) ?_
                refine pQ (i := 2) (N := some 19) #[yy,yy,yy,nn,nn,nn,nn,nn,nn,nn,nn,nn,nn,nn,nn,nn,nn,nn,nn,nn,nn,nn] (any_of HT_.out (by kernel_rfl)) ?_
                refine pQ (i := 3) (N := some 20) #[yy,yy,yy,yy,nn,nn,nn,nn,nn,nn,nn,nn,nn,nn,nn,nn,nn,nn,nn,nn,nn,nn] (any_of HT_.out (by kernel_rfl)) ?_
                refine pQ (i := 4) (N := some 21) #[yy,yy,yy,yy,yy,nn,nn,nn,nn,nn,nn,nn,nn,nn,nn,nn,nn,nn,nn,nn,nn,nn] (any_of HT_.out (by kernel_rfl)) ?_
                refine tQ (i := 5) (N := some 22) #[yy,yy,yy,yy,yy,yy,nn,nn,nn,nn,nn,nn,nn,nn,nn,nn,nn,nn,nn,nn,nn,nn] (take_ofW HT_.out HW_.out (by kernel_rfl)) hHeld ?_
                refine one_ (i := 6) (N := some 23) #[yy,yy,yy,yy,yy,yy,yy,nn,nn,nn,nn,nn,nn,nn,nn,nn,nn,nn,nn,nn,nn,nn] rfl rfl (one_of HT_.out (by kernel_rfl)) (by decide) (fun K hK => ?_)
                refine goes_ Try.func107 (by kernel_rfl) rfl #[.slice A1 l1.length c1, .int .i64 ((rd_T27 l0 x6_1).f0)] (by rfl) rfl rfl (by (try simp only [List.map_toArray, List.map_cons, List.map_nil]); first | done | rfl | (simp only [List.length_drop, List.length_take]; rfl)) ?_
                with_reducible refine (spec_l7Has.calls kj2 _ _ l1 ((rd_T27 l0 x6_1).f0) false _ ?side1 ?side2 A10.out).mono ?_
                (case side1 => repeat (first | exact (Kd.C_below HR1.out HB.out) | (with_reducible refine Kd.C_alloc ?_ _) | (with_reducible refine Kd.C_drewN ?_ _) | (with_reducible refine Kd.C_drew ?_)))
                (case side2 => exact HC1.out)
                rintro e w' ⟨rfl, ⟨nd, rfl⟩⟩
                refine ⟨_, rfl, ?_⟩
                refine hK.out _ _ (mv14 HB.out hw103_0 hw103_1 hw103_2 hw103_3 hw103_4 hw103_5 hw103_6 hw103_7 hw103_8 hw103_9 hw103_10 hw103_11 hw103_12 hw103_13 :) (fun hHeld => ?_)
                clear hK K
                refine nQ (N := some 23) ?_
                refine pQ (i := 7) (N := some 24) #[yy,yy,yy,yy,yy,yy,yy,yy,nn,nn,nn,nn,nn,nn,nn,nn,nn,nn,nn,nn,nn,nn] (any_of HT_.out (by kernel_rfl)) ?_
                refine pure_ (i := 8) (N := some 25) (v := undef) (a' := ?_) #[yy,yy,yy,yy,yy,yy,yy,yy,yy,nn,nn,nn,nn,nn,nn,nn,nn,nn,nn,nn,nn,nn] rfl rfl (any_of HT_.out (by kernel_rfl)) (fun _ _ _ h => h) (Or.inr ⟨by rfl, rfl⟩) ?_ ?_
                rotate_left
                · simp only [Act.put, tA, tB, tC, i64_w, i32_w]
                  rfl
                refine pure_ (i := 9) (N := some 26) (v := undef) (a' := ?_) #[yy,yy,yy,yy,yy,yy,yy,yy,yy,yy,nn,nn,nn,nn,nn,nn,nn,nn,nn,nn,nn,nn] rfl rfl (any_of HT_.out (by kernel_rfl)) (fun _ _ _ h => h) (Or.inr ⟨by rfl, rfl⟩) ?_ ?_
                rotate_left
                · simp only [Act.put, tA, tB, tC, i64_w, i32_w]
                  rfl
                refine pure_ (i := 10) (N := some 27) (v := undef) (a' := ?_) #[yy,yy,yy,yy,yy,yy,yy,yy,yy,yy,yy,nn,nn,nn,nn,nn,nn,nn,nn,nn,nn,nn] rfl rfl (any_of HT_.out (by kernel_rfl)) (fun _ _ _ h => h) (Or.inr ⟨by rfl, rfl⟩) ?_ ?_
                rotate_left
                · simp only [Act.put, tA, tB, tC, i64_w, i32_w]
                  rfl
                refine pure_ (i := 11) (N := some 28) (v := undef) (a' := ?_) #[yy,yy,yy,yy,yy,yy,yy,yy,yy,yy,yy,yy,nn,nn,nn,nn,nn,nn,nn,nn,nn,nn] rfl rfl (any_of HT_.out (by kernel_rfl)) (fun _ _ _ h => h) (Or.inr ⟨by rfl, rfl⟩) ?_ ?_
                rotate_left
                · simp only [Act.put, tA, tB, tC, i64_w, i32_w]
                  rfl
                refine pure_ (i := 12) (N := some 29) (v := undef) (a' := ?_) #[yy,yy,yy,yy,yy,yy,yy,yy,yy,yy,yy,yy,yy,nn,nn,nn,nn,nn,nn,nn,nn,nn] rfl rfl (any_of HT_.out (by kernel_rfl)) (fun _ _ _ h => h) (Or.inr ⟨by rfl, rfl⟩) ?_ ?_
                rotate_left
                · simp only [Act.put, tA, tB, tC, i64_w, i32_w]
                  rfl
                refine pure_ (i := 13) (N := some 30) (v := undef) (a' := ?_) #[yy,yy,yy,yy,yy,yy,yy,yy,yy,yy,yy,yy,yy,yy,nn,nn,nn,nn,nn,nn,nn,nn] rfl rfl (any_of HT_.out (by kernel_rfl)) (fun _ _ _ h => h) (Or.inr ⟨by rfl, rfl⟩) ?_ ?_
                rotate_left
                · simp only [Act.put, tA, tB, tC, i64_w, i32_w]
                  rfl
                refine pure_ (i := 14) (N := some 31) (v := undef) (a' := ?_) #[yy,yy,yy,yy,yy,yy,yy,yy,yy,yy,yy,yy,yy,yy,yy,nn,nn,nn,nn,nn,nn,nn] rfl rfl (any_of HT_.out (by kernel_rfl)) (fun _ _ _ h => h) (Or.inr ⟨by rfl, rfl⟩) ?_ ?_
                rotate_left
                · simp only [Act.put, tA, tB, tC, i64_w, i32_w]
                  rfl
                refine pure_ (i := 15) (N := some 32) (v := undef) (a' := ?_) #[yy,yy,yy,yy,yy,yy,yy,yy,yy,yy,yy,yy,yy,yy,yy,yy,nn,nn,nn,nn,nn,nn] rfl rfl (any_of HT_.out (by kernel_rfl)) (fun _ _ _ h => h) (Or.inr ⟨by rfl, rfl⟩) ?_ ?_
                rotate_left
                · simp only [Act.put, tA, tB, tC, i64_w, i32_w]
                  rfl
                refine pure_ (i := 16) (N := some 33) (v := undef) (a' := ?_) #[yy,yy,yy,yy,yy,yy,yy,yy,yy,yy,yy,yy,yy,yy,yy,yy,yy,nn,nn,nn,nn,nn] rfl rfl (any_of HT_.out (by kernel_rfl)) (fun _ _ _ h => h) (Or.inr ⟨by rfl, rfl⟩) ?_ ?_
                rotate_left
                · simp only [Act.put, tA, tB, tC, i64_w, i32_w]
                  rfl
                refine pure_ (i := 17) (N := some 34) (v := undef) (a' := ?_) #[yy,yy,yy,yy,yy,yy,yy,yy,yy,yy,yy,yy,yy,yy,yy,yy,yy,yy,nn,nn,nn,nn] rfl rfl (any_of HT_.out (by kernel_rfl)) (fun _ _ _ h => h) (Or.inr ⟨by rfl, rfl⟩) ?_ ?_
                rotate_left
                · simp only [Act.put, tA, tB, tC, i64_w, i32_w]
                  rfl
                refine pure_ (i := 18) (N := some 35) (v := undef) (a' := ?_) #[yy,yy,yy,yy,yy,yy,yy,yy,yy,yy,yy,yy,yy,yy,yy,yy,yy,yy,yy,nn,nn,nn] rfl rfl (any_of HT_.out (by kernel_rfl)) (fun _ _ _ h => h) (Or.inr ⟨by rfl, rfl⟩) ?_ ?_
                rotate_left
                · simp only [Act.put, tA, tB, tC, i64_w, i32_w]
                  rfl
                refine pure_ (i := 19) (N := some 36) (v := undef) (a' := ?_) #[yy,yy,yy,yy,yy,yy,yy,yy,yy,yy,yy,yy,yy,yy,yy,yy,yy,yy,yy,yy,nn,nn] rfl rfl (any_of HT_.out (by kernel_rfl)) (fun _ _ _ h => h) (Or.inr ⟨by rfl, rfl⟩) ?_ ?_
                rotate_left
                · simp only [Act.put, tA, tB, tC, i64_w, i32_w]
                  rfl
                refine pure_ (i := 20) (N := some 37) (v := undef) (a' := ?_) #[yy,yy,yy,yy,yy,yy,yy,yy,yy,yy,yy,yy,yy,yy,yy,yy,yy,yy,yy,yy,yy,nn] rfl rfl (any_of HT_.out (by kernel_rfl)) (fun _ _ _ h => h) (Or.inr ⟨by rfl, rfl⟩) ?_ ?_
                rotate_left
                · simp only [Act.put, tA, tB, tC, i64_w, i32_w]
                  rfl
                refine pQ (i := 21) (N := some 38) #[yy,yy,yy,yy,yy,yy,yy,yy,yy,yy,yy,yy,yy,yy,yy,yy,yy,yy,yy,yy,yy,yy] (any_of HT_.out (by kernel_rfl)) ?_
                refine done_ (done_of HT_.out (by kernel_rfl)) ?_
                try go_wp2
                go_roundg kj2
                case measure => have := HK1.out; have := HJ2.out; omega
                case rel => exact ⟨(x5_1), (wrap64 (x6_1 + 1)), (by first | rfl | (simp; done) | (simp [*]; done)), (by first | rfl | (simp; done) | (simp [*]; done)), H', ⟨by have := HK1.out; have := HJ2.out; omega⟩, ⟨bq HB⟩⟩
              rw [if_neg c9] at H
              exact absurd H (by simp)
            rw [if_neg c8] at H
            exact absurd H (by simp)
          replace c7 := Bool.eq_false_iff.mpr c7
          subst c7
          have H1 : (if x5_1 < 0 then (some 0) else (if 0 ≤ x5_1 then (if x5_1 < (l0.length : Int) then (some ((rd_T27 l0 x5_1).f0)) else (none)) else (none))) = some r := by rw [if_neg (show ¬ (false = true) by decide)] at H; exact H
          clear H
          have H := H1
          clear H1
          by_cases c23 : x5_1 < 0
          · rw [if_pos c23] at H
            have c23b0 : decide (x5_1 < 0) = true := decide_eq_true c23
            clear c23
            obtain rfl := Option.some.inj H
            go_wp2
            go_ret
            exact ⟨by first | rfl | (simp <;> rfl) | (simp [*] <;> rfl), bq HB⟩
          rw [if_neg c23] at H
          have c23b0 : decide (x5_1 < 0) = false := decide_eq_false c23
          clear c23
          by_cases c24 : 0 ≤ x5_1
          · rw [if_pos c24] at H
            have c24b0 : decide (0 ≤ x5_1) = true := decide_eq_true c24
            clear c24
            by_cases c25 : x5_1 < (l0.length : Int)
            · rw [if_pos c25] at H
              have c25b0 : decide (x5_1 < (l0.length : Int)) = true := decide_eq_true c25
              clear c25
              obtain rfl := Option.some.inj H
              have p102 : 0 ≤ (x5_1 : Int) := of_decide_eq_true (by first | (with_reducible assumption) | assumption)
              have q102 : x5_1 < (l0.length : Int) := of_decide_eq_true (by first | (with_reducible assumption) | assumption)
              obtain ⟨ad102, e102, hx102_0, hx102_1, hx102_2, hx102_3, hx102_4, hx102_5, hx102_6, hx102_7, hx102_8, hx102_9, hx102_10, hx102_11, hx102_12, hx102_13⟩ := at_T27 HR0.out x5_1 p102 q102
              cases e102
              have hmv_ := mv14 HB.out hx102_0 hx102_1 hx102_2 hx102_3 hx102_4 hx102_5 hx102_6 hx102_7 hx102_8 hx102_9 hx102_10 hx102_11 hx102_12 hx102_13
              clear hx102_0 hx102_1 hx102_2 hx102_3 hx102_4 hx102_5 hx102_6 hx102_7 hx102_8 hx102_9 hx102_10 hx102_11 hx102_12 hx102_13
              obtain ⟨hx102_0, hx102_1, hx102_2, hx102_3, hx102_4, hx102_5, hx102_6, hx102_7, hx102_8, hx102_9, hx102_10, hx102_11, hx102_12, hx102_13⟩ := hmv_
              replace p102 := eq_true p102
              replace q102 := eq_true q102
              go_wp2
              go_ret
              exact ⟨by first | rfl | (simp <;> rfl) | (simp [*] <;> rfl), bq HB⟩
            rw [if_neg c25] at H
            exact absurd H (by simp)
          rw [if_neg c24] at H
          exact absurd H (by simp)

end Go.Proofs.Ytphkgmdbdnjmbaa.Print
