/- Go functions as plain Lean functions, and that the Go code answers just as these, wherever they answer. Conditions: those of each theorem. Written by a program of this session (wip/patch.py). -/
import Derived.Test.YtbihinhckmfplaaPrint0
import Derived.Test.YtbihinhckmfplaaPrintSpecTaskOk0
namespace Go.Proofs.Ytbihinhckmfplaa.Print
open Go.RowKit Go.Proofs.Ytbihinhckmfplaa.Base Go.Proofs.YtbihinhckmfplaaW.PrintWords Go.Proofs.YtbihinhckmfplaaW.PrintLast Go.Proofs.YtbihinhckmfplaaW.PrintMore
attribute [local go_sem] max2_int min2_int max_two min_two max_three min_three max_four min_four   -- for this text's walks alone
set_option linter.unusedVariables false
set_option linter.unusedSimpArgs false

/-! ### spec_TasksOk: function 18 -/
def spec_TasksOk.l0 : Nat → List (S30) → Int → Option (Bool)
  | 0, _, _ => none
  | k + 1, x0, x3 => if x3 < (x0.length : Int) then (if 0 ≤ x3 then ((spec_TaskOk.f ((rd_T30 x0 x3).f0) ((rd_T30 x0 x3).f1) ((rd_T30 x0 x3).f2) ((rd_T30 x0 x3).f3) ((rd_T30 x0 x3).f4) ((rd_T30 x0 x3).f5) ((rd_T30 x0 x3).f6) ((rd_T30 x0 x3).f7) ((rd_T30 x0 x3).f8) ((rd_T30 x0 x3).f9) ((rd_T30 x0 x3).f10) ((rd_T30 x0 x3).f11) ((rd_T30 x0 x3).f12) ((rd_T30 x0 x3).f13)).bind fun t102 => (if t102 = true then (if x3 > 0 then (if 0 ≤ (wrap64 (x3 - 1)) then (if (wrap64 (x3 - 1)) < (x0.length : Int) then (if ((rd_T30 x0 (wrap64 (x3 - 1))).f0) ≥ ((rd_T30 x0 x3).f0) then (some false) else (spec_TasksOk.l0 k x0 (wrap64 (x3 + 1)))) else (none)) else (none)) else (spec_TasksOk.l0 k x0 (wrap64 (x3 + 1)))) else (some false))) else (none)) else (some (decide ((x0.length : Int) ≤ 12)))
def spec_TasksOk.f (k : Nat) (l0 : List (S30)) : Option (Bool) := spec_TasksOk.l0 k l0 0
theorem spec_TasksOk.mono_l : ∀ k, (∀ y0 y1, LeO (spec_TasksOk.l0 k y0 y1) (spec_TasksOk.l0 (k + 1) y0 y1))
  | 0 => fun _ _ r h => by simp [spec_TasksOk.l0] at h
  | k + 1 => by
    have ih0 := spec_TasksOk.mono_l k
    intro y0 y1
    unfold spec_TasksOk.l0
    repeat' first
    | (with_reducible exact ih0 _ _)
    | (with_reducible exact LeO.refl _)
    | (with_reducible exact LeO.none _)
    | (with_reducible refine LeO.ite ?_ ?_)
    | (with_reducible refine LeO.bind ?_ (fun _ => ?_))
    | exact ih0 _ _
    | exact LeO.none _
    | refine LeO.ite ?_ ?_
    | refine LeO.bind ?_ (fun _ => ?_)
theorem spec_TasksOk.mono : ∀ a0 k, LeO (spec_TasksOk.f k a0) (spec_TasksOk.f (k + 1) a0) := by
  intro a0 k
  have ih0 := spec_TasksOk.mono_l k
  unfold spec_TasksOk.f
  repeat' first
      | (with_reducible exact ih0 _ _)
      | (with_reducible exact LeO.refl _)
      | (with_reducible exact LeO.none _)
      | (with_reducible refine LeO.ite ?_ ?_)
      | (with_reducible refine LeO.bind ?_ (fun _ => ?_))
      | exact ih0 _ _
      | exact LeO.none _
      | refine LeO.ite ?_ ?_
      | refine LeO.bind ?_ (fun _ => ?_)
def spec_TasksOk.T4 : Bool × List (List Nat × List Nat) := (true, [([], []), ([], []), ([0, 1], [0, 1]), ([2], [2]), ([3], [3]), ([4], [4]), ([5, 4], [5]), ([6], [6]), ([7, 6], [6, 7]), ([8, 6, 6], [6, 8]), ([9], [9]), ([9], [9]), ([11, 9], [9, 11]), ([10, 12, 9], [9, 10, 12]), ([13, 9], [9, 13]), ([14, 9], [9, 14]), ([9], [9]), ([9], [9]), ([16, 17, 9], [9, 16, 17]), ([18, 9], [9, 18]), ([19, 9], [9, 19]), ([15, 20, 9], [9, 15, 20]), ([9, 21, 6], [6, 9, 21]), ([6, 22], [6, 22])])
def spec_TasksOk.B4 : List Nat := [0, 0, 3, 7, 15, 31, 63, 127, 255, 511, 1023, 1023, 3071, 8191, 16383, 32767, 1023, 1023, 197631, 459775, 984063, 2097151, 4194303, 8388607]
theorem spec_TasksOk.tab4 : rtab .any (opsOf Try.f18 4) = spec_TasksOk.T4 := by kernel_rfl
theorem spec_TasksOk.bits4 : waitsOk spec_TasksOk.T4.2 spec_TasksOk.B4 = true := by kernel_rfl
set_option maxHeartbeats 8000000 in
set_option maxRecDepth 100000 in
theorem spec_TasksOk.calls (k : Nat) (A0 : Option Addr) (c0 : Nat) (l0 : List (S30)) (r : Bool) (w : World) (hr0 : Kd.C k30 w A0 l0.length l0) (hc0 : l0.length ≤ c0) (h : spec_TasksOk.f k l0 = some r) :
    Calls Try.prog 18 #[.slice A0 l0.length c0] w fun e w' => e = .returned (.bool r) ∧ Below w.heap.size w w' := by
  have hu30 := Try.underlying30
  have HR0 := Aside0.mk hr0
  have HC0 := Aside0.mk hc0
  clear hr0 hc0
  have HB := aM (Below.refl w.heap.size w)
  have H : (spec_TasksOk.l0 k l0 0) = some r := h
  clear h
  have H' := Aside0.mk H
  clear H
  go_enter Try.func18, Try.ntmps18
  go_wp2
  go_loopg [3] k (fun kq v3 w' => ∃ (x3_1 : Int), v3 = .int .i64 x3_1 ∧ Aside0 (spec_TasksOk.l0 kq l0 x3_1 = some r) ∧ Aside0 (kq ≤ k) ∧ Aside0 (Below w.heap.size w w'))
  case atStart => exact ⟨(0), (by first | rfl | (simp; done) | (simp [*]; done)), H', ⟨Nat.le_refl _⟩, ⟨bq HB⟩⟩
  case round =>
    clear H'
    try clear c1
    obtain ⟨x3_1, rfl, HA, HK1, HB⟩ := hrel
    cases gk with
    | zero => exact absurd HA.out (by simp [spec_TasksOk.l0])
    | succ k1 =>
      have H := HA.out
      clear HA
      simp only [spec_TasksOk.l0] at H
      by_cases c2 : x3_1 < (l0.length : Int)
      · rw [if_pos c2] at H
        have c2b0 : decide (x3_1 < (l0.length : Int)) = true := decide_eq_true c2
        clear c2
        by_cases c3 : 0 ≤ x3_1
        · rw [if_pos c3] at H
          have c3b0 : decide (0 ≤ x3_1) = true := decide_eq_true c3
          clear c3
          replace H := Option.bind_eq_some_iff.mp H
          obtain ⟨t102, A40, H⟩ := H
          replace H : (if t102 = true then (if x3_1 > 0 then (if 0 ≤ (wrap64 (x3_1 - 1)) then (if (wrap64 (x3_1 - 1)) < (l0.length : Int) then (if ((rd_T30 l0 (wrap64 (x3_1 - 1))).f0) ≥ ((rd_T30 l0 x3_1).f0) then (some false) else (spec_TasksOk.l0 k1 l0 (wrap64 (x3_1 + 1)))) else (none)) else (none)) else (spec_TasksOk.l0 k1 l0 (wrap64 (x3_1 + 1)))) else (some false)) = some r := H
          have A4 := Aside0.mk A40
          clear A40
          by_cases c5 : t102 = true
          · subst c5
            have H1 : (if x3_1 > 0 then (if 0 ≤ (wrap64 (x3_1 - 1)) then (if (wrap64 (x3_1 - 1)) < (l0.length : Int) then (if ((rd_T30 l0 (wrap64 (x3_1 - 1))).f0) ≥ ((rd_T30 l0 x3_1).f0) then (some false) else (spec_TasksOk.l0 k1 l0 (wrap64 (x3_1 + 1)))) else (none)) else (none)) else (spec_TasksOk.l0 k1 l0 (wrap64 (x3_1 + 1)))) = some r := by rw [if_pos rfl] at H; exact H
            clear H
            have H := H1
            clear H1
            by_cases c6 : x3_1 > 0
            · rw [if_pos c6] at H
              have c6b0 : decide (0 < x3_1) = true := decide_eq_true c6
              clear c6
              obtain ⟨ji7, hji7⟩ : ∃ j_ : Int, (wrap64 (x3_1 - 1)) = j_ := ⟨_, rfl⟩
              replace H : (if 0 ≤ (ji7) then (if (ji7) < (l0.length : Int) then (if ((rd_T30 l0 (ji7)).f0) ≥ ((rd_T30 l0 x3_1).f0) then (some false) else (spec_TasksOk.l0 k1 l0 (wrap64 (x3_1 + 1)))) else (none)) else (none)) = some r := by first | (rw [hji7] at H; exact H) | (simp only [hji7] at H ⊢; exact H)
              (try rw [hji7] at A4)
              have hji7w : (IntKind.i64.wrap (x3_1 - 1)) = ji7 := (i64_w _).trans hji7
              by_cases c8 : 0 ≤ (ji7)
              · rw [if_pos c8] at H
                have c8b0 : decide (0 ≤ (ji7)) = true := decide_eq_true c8
                clear c8
                by_cases c9 : (ji7) < (l0.length : Int)
                · rw [if_pos c9] at H
                  have c9b0 : decide ((ji7) < (l0.length : Int)) = true := decide_eq_true c9
                  clear c9
                  by_cases c10 : ((rd_T30 l0 (ji7)).f0) ≥ ((rd_T30 l0 x3_1).f0)
                  · rw [if_pos c10] at H
                    have c10b0 : decide (((rd_T30 l0 x3_1).f0) ≤ ((rd_T30 l0 (ji7)).f0)) = true := decide_eq_true c10
                    clear c10
                    obtain rfl := Option.some.inj H
                    try go_wp2
                    have n0_ := aM (below_drew1 HB.out)
                    clear HB
                    have HB := n0_
                    clear n0_
                    have p101 : 0 ≤ (x3_1 : Int) := of_decide_eq_true (by first | (with_reducible assumption) | assumption)
                    have q101 : x3_1 < (l0.length : Int) := of_decide_eq_true (by first | (with_reducible assumption) | assumption)
                    obtain ⟨ad101, e101, hx101_0, hx101_1, hx101_2, hx101_3, hx101_4, hx101_5, hx101_6, hx101_7, hx101_8, hx101_9, hx101_10, hx101_11, hx101_12, hx101_13⟩ := at_T30 HR0.out x3_1 p101 q101
                    have hw101_13 := hx101_13
                    have hw101_12 := hx101_12
                    have hw101_11 := hx101_11
                    have hw101_10 := hx101_10
                    have hw101_9 := hx101_9
                    have hw101_8 := hx101_8
                    have hw101_7 := hx101_7
                    have hw101_6 := hx101_6
                    have hw101_5 := hx101_5
                    have hw101_4 := hx101_4
                    have hw101_3 := hx101_3
                    have hw101_2 := hx101_2
                    have hw101_1 := hx101_1
                    have hw101_0 := hx101_0
                    cases e101
                    have hmv_ := mv14 HB.out hx101_0 hx101_1 hx101_2 hx101_3 hx101_4 hx101_5 hx101_6 hx101_7 hx101_8 hx101_9 hx101_10 hx101_11 hx101_12 hx101_13
                    clear hx101_0 hx101_1 hx101_2 hx101_3 hx101_4 hx101_5 hx101_6 hx101_7 hx101_8 hx101_9 hx101_10 hx101_11 hx101_12 hx101_13
                    obtain ⟨hx101_0, hx101_1, hx101_2, hx101_3, hx101_4, hx101_5, hx101_6, hx101_7, hx101_8, hx101_9, hx101_10, hx101_11, hx101_12, hx101_13⟩ := hmv_
                    replace p101 := eq_true p101
                    replace q101 := eq_true q101
                    have p103 : 0 ≤ ((ji7) : Int) := of_decide_eq_true (by first | (with_reducible assumption) | assumption)
                    have q103 : (ji7) < (l0.length : Int) := of_decide_eq_true (by first | (with_reducible assumption) | assumption)
                    obtain ⟨ad103, e103, hx103_0, hx103_1, hx103_2, hx103_3, hx103_4, hx103_5, hx103_6, hx103_7, hx103_8, hx103_9, hx103_10, hx103_11, hx103_12, hx103_13⟩ := at_T30 HR0.out (ji7) p103 q103
                    have hw103_13 := hx103_13
                    have hw103_12 := hx103_12
                    have hw103_11 := hx103_11
                    have hw103_10 := hx103_10
                    have hw103_9 := hx103_9
                    have hw103_8 := hx103_8
                    have hw103_7 := hx103_7
                    have hw103_6 := hx103_6
                    have hw103_5 := hx103_5
                    have hw103_4 := hx103_4
                    have hw103_3 := hx103_3
                    have hw103_2 := hx103_2
                    have hw103_1 := hx103_1
                    have hw103_0 := hx103_0
                    obtain rfl : ad101 = ad103 := (by injection e103)
                    have hmv_ := mv14 HB.out hx103_0 hx103_1 hx103_2 hx103_3 hx103_4 hx103_5 hx103_6 hx103_7 hx103_8 hx103_9 hx103_10 hx103_11 hx103_12 hx103_13
                    clear hx103_0 hx103_1 hx103_2 hx103_3 hx103_4 hx103_5 hx103_6 hx103_7 hx103_8 hx103_9 hx103_10 hx103_11 hx103_12 hx103_13
                    obtain ⟨hx103_0, hx103_1, hx103_2, hx103_3, hx103_4, hx103_5, hx103_6, hx103_7, hx103_8, hx103_9, hx103_10, hx103_11, hx103_12, hx103_13⟩ := hmv_
                    replace p103 := eq_true p103
                    replace q103 := eq_true q103
                    have p104 : 0 ≤ (x3_1 : Int) := of_decide_eq_true (by first | (with_reducible assumption) | assumption)
                    have q104 : x3_1 < (l0.length : Int) := of_decide_eq_true (by first | (with_reducible assumption) | assumption)
                    obtain ⟨ad104, e104, hx104_0, hx104_1, hx104_2, hx104_3, hx104_4, hx104_5, hx104_6, hx104_7, hx104_8, hx104_9, hx104_10, hx104_11, hx104_12, hx104_13⟩ := at_T30 HR0.out x3_1 p104 q104
                    have hw104_13 := hx104_13
                    have hw104_12 := hx104_12
                    have hw104_11 := hx104_11
                    have hw104_10 := hx104_10
                    have hw104_9 := hx104_9
                    have hw104_8 := hx104_8
                    have hw104_7 := hx104_7
                    have hw104_6 := hx104_6
                    have hw104_5 := hx104_5
                    have hw104_4 := hx104_4
                    have hw104_3 := hx104_3
                    have hw104_2 := hx104_2
                    have hw104_1 := hx104_1
                    have hw104_0 := hx104_0
                    obtain rfl : ad101 = ad104 := (by injection e104)
                    have hmv_ := mv14 HB.out hx104_0 hx104_1 hx104_2 hx104_3 hx104_4 hx104_5 hx104_6 hx104_7 hx104_8 hx104_9 hx104_10 hx104_11 hx104_12 hx104_13
                    clear hx104_0 hx104_1 hx104_2 hx104_3 hx104_4 hx104_5 hx104_6 hx104_7 hx104_8 hx104_9 hx104_10 hx104_11 hx104_12 hx104_13
                    obtain ⟨hx104_0, hx104_1, hx104_2, hx104_3, hx104_4, hx104_5, hx104_6, hx104_7, hx104_8, hx104_9, hx104_10, hx104_11, hx104_12, hx104_13⟩ := hmv_
                    replace p104 := eq_true p104
                    replace q104 := eq_true q104
                    refine start_ (n := 24) (S := fun w' => ca14t w' (ad101.add ((x3_1).toNat * 14)) (.int .i64 ((rd_T30 l0 x3_1).f0)) (.int .i64 ((rd_T30 l0 x3_1).f1)) (.int .i64 ((rd_T30 l0 x3_1).f2)) (.int .i64 ((rd_T30 l0 x3_1).f3)) (.bool ((rd_T30 l0 x3_1).f4)) (.int .i64 ((rd_T30 l0 x3_1).f5)) (.int .i64 ((rd_T30 l0 x3_1).f6)) (.int .i64 ((rd_T30 l0 x3_1).f7)) (.int .i64 ((rd_T30 l0 x3_1).f8)) (.int .i64 ((rd_T30 l0 x3_1).f9)) (.int .i64 ((rd_T30 l0 x3_1).f10)) (.int .i64 ((rd_T30 l0 x3_1).f11)) (.int .i64 ((rd_T30 l0 x3_1).f12)) (.int .i64 ((rd_T30 l0 x3_1).f13)) (ca14t w' (ad101.add (((ji7)).toNat * 14)) (.int .i64 ((rd_T30 l0 (ji7)).f0)) (.int .i64 ((rd_T30 l0 (ji7)).f1)) (.int .i64 ((rd_T30 l0 (ji7)).f2)) (.int .i64 ((rd_T30 l0 (ji7)).f3)) (.bool ((rd_T30 l0 (ji7)).f4)) (.int .i64 ((rd_T30 l0 (ji7)).f5)) (.int .i64 ((rd_T30 l0 (ji7)).f6)) (.int .i64 ((rd_T30 l0 (ji7)).f7)) (.int .i64 ((rd_T30 l0 (ji7)).f8)) (.int .i64 ((rd_T30 l0 (ji7)).f9)) (.int .i64 ((rd_T30 l0 (ji7)).f10)) (.int .i64 ((rd_T30 l0 (ji7)).f11)) (.int .i64 ((rd_T30 l0 (ji7)).f12)) (.int .i64 ((rd_T30 l0 (ji7)).f13)) (ca14 w' (ad101.add ((x3_1).toNat * 14)) (.int .i64 ((rd_T30 l0 x3_1).f0)) (.int .i64 ((rd_T30 l0 x3_1).f1)) (.int .i64 ((rd_T30 l0 x3_1).f2)) (.int .i64 ((rd_T30 l0 x3_1).f3)) (.bool ((rd_T30 l0 x3_1).f4)) (.int .i64 ((rd_T30 l0 x3_1).f5)) (.int .i64 ((rd_T30 l0 x3_1).f6)) (.int .i64 ((rd_T30 l0 x3_1).f7)) (.int .i64 ((rd_T30 l0 x3_1).f8)) (.int .i64 ((rd_T30 l0 x3_1).f9)) (.int .i64 ((rd_T30 l0 x3_1).f10)) (.int .i64 ((rd_T30 l0 x3_1).f11)) (.int .i64 ((rd_T30 l0 x3_1).f12)) (.int .i64 ((rd_T30 l0 x3_1).f13))))) (ds := []) #[nn,nn,nn,nn,nn,nn,nn,nn,nn,nn,nn,nn,nn,nn,nn,nn,nn,nn,nn,nn,nn,nn,nn,nn] (by kernel_rfl) rfl rfl ⟨((HB.out.cell (World.block_lt_of_cell? w _ hw101_0)).trans hw101_0), ((HB.out.cell (World.block_lt_of_cell? w _ hw101_1)).trans hw101_1), ((HB.out.cell (World.block_lt_of_cell? w _ hw101_2)).trans hw101_2), ((HB.out.cell (World.block_lt_of_cell? w _ hw101_3)).trans hw101_3), ((HB.out.cell (World.block_lt_of_cell? w _ hw101_4)).trans hw101_4), ((HB.out.cell (World.block_lt_of_cell? w _ hw101_5)).trans hw101_5), ((HB.out.cell (World.block_lt_of_cell? w _ hw101_6)).trans hw101_6), ((HB.out.cell (World.block_lt_of_cell? w _ hw101_7)).trans hw101_7), ((HB.out.cell (World.block_lt_of_cell? w _ hw101_8)).trans hw101_8), ((HB.out.cell (World.block_lt_of_cell? w _ hw101_9)).trans hw101_9), ((HB.out.cell (World.block_lt_of_cell? w _ hw101_10)).trans hw101_10), ((HB.out.cell (World.block_lt_of_cell? w _ hw101_11)).trans hw101_11), ((HB.out.cell (World.block_lt_of_cell? w _ hw101_12)).trans hw101_12), ((HB.out.cell (World.block_lt_of_cell? w _ hw101_13)).trans hw101_13), ((HB.out.cell (World.block_lt_of_cell? w _ hw103_0)).trans hw103_0), ((HB.out.cell (World.block_lt_of_cell? w _ hw103_1)).trans hw103_1), ((HB.out.cell (World.block_lt_of_cell? w _ hw103_2)).trans hw103_2), ((HB.out.cell (World.block_lt_of_cell? w _ hw103_3)).trans hw103_3), ((HB.out.cell (World.block_lt_of_cell? w _ hw103_4)).trans hw103_4), ((HB.out.cell (World.block_lt_of_cell? w _ hw103_5)).trans hw103_5), ((HB.out.cell (World.block_lt_of_cell? w _ hw103_6)).trans hw103_6), ((HB.out.cell (World.block_lt_of_cell? w _ hw103_7)).trans hw103_7), ((HB.out.cell (World.block_lt_of_cell? w _ hw103_8)).trans hw103_8), ((HB.out.cell (World.block_lt_of_cell? w _ hw103_9)).trans hw103_9), ((HB.out.cell (World.block_lt_of_cell? w _ hw103_10)).trans hw103_10), ((HB.out.cell (World.block_lt_of_cell? w _ hw103_11)).trans hw103_11), ((HB.out.cell (World.block_lt_of_cell? w _ hw103_12)).trans hw103_12), ((HB.out.cell (World.block_lt_of_cell? w _ hw103_13)).trans hw103_13), ((HB.out.cell (World.block_lt_of_cell? w _ hw104_0)).trans hw104_0), ((HB.out.cell (World.block_lt_of_cell? w _ hw104_1)).trans hw104_1), ((HB.out.cell (World.block_lt_of_cell? w _ hw104_2)).trans hw104_2), ((HB.out.cell (World.block_lt_of_cell? w _ hw104_3)).trans hw104_3), ((HB.out.cell (World.block_lt_of_cell? w _ hw104_4)).trans hw104_4), ((HB.out.cell (World.block_lt_of_cell? w _ hw104_5)).trans hw104_5), ((HB.out.cell (World.block_lt_of_cell? w _ hw104_6)).trans hw104_6), ((HB.out.cell (World.block_lt_of_cell? w _ hw104_7)).trans hw104_7), ((HB.out.cell (World.block_lt_of_cell? w _ hw104_8)).trans hw104_8), ((HB.out.cell (World.block_lt_of_cell? w _ hw104_9)).trans hw104_9), ((HB.out.cell (World.block_lt_of_cell? w _ hw104_10)).trans hw104_10), ((HB.out.cell (World.block_lt_of_cell? w _ hw104_11)).trans hw104_11), ((HB.out.cell (World.block_lt_of_cell? w _ hw104_12)).trans hw104_12), ((HB.out.cell (World.block_lt_of_cell? w _ hw104_13)).trans hw104_13)⟩ (fun hHeld => ?_); refine with_tabW spec_TasksOk.tab4 spec_TasksOk.bits4 (fun HT_ HW_ => ?_)
                    generalize wr.drew = w11 at HB hx101_0 hx101_1 hx101_10 hx101_11 hx101_12 hx101_13 hx101_2 hx101_3 hx101_4 hx101_5 hx101_6 hx101_7 hx101_8 hx101_9 hx103_0 hx103_1 hx103_10 hx103_11 hx103_12 hx103_13 hx103_2 hx103_3 hx103_4 hx103_5 hx103_6 hx103_7 hx103_8 hx103_9 hx104_0 hx104_1 hx104_10 hx104_11 hx104_12 hx104_13 hx104_2 hx104_3 hx104_4 hx104_5 hx104_6 hx104_7 hx104_8 hx104_9 hHeld ⊢
                    refine pQ (i := 0) (N := some 10) #[yy,nn,nn,nn,nn,nn,nn,nn,nn,nn,nn,nn,nn,nn,nn,nn,nn,nn,nn,nn,nn,nn,nn,nn] (any_of HT_.out (by kernel_rfl)) ?_
                    refine pQ (i := 1) (N := some 11) #[yy,yy,nn,nn,nn,nn,nn,nn,nn,nn,nn,nn,nn,nn,nn,nn,nn,nn,nn,nn,nn,nn,nn,nn] (any_of HT_.out (by kernel_rfl)) ?_
                    refine pQ (i := 2) (N := some 12) #[yy,yy,yy,nn,nn,nn,nn,nn,nn,nn,nn,nn,nn,nn,nn,nn,nn,nn,nn,nn,nn,nn,nn,nn] (any_of HT_.out (by kernel_rfl)) ?_
                    refine tQ (i := 3) (N := some 13) #[yy,yy,yy,yy,nn,nn,nn,nn,nn,nn,nn,nn,nn,nn,nn,nn,nn,nn,nn,nn,nn,nn,nn,nn] (take_ofW HT_.out HW_.out (by kernel_rfl)) hHeld ?_
                    refine one_ (i := 4) (N := some 14) #[yy,yy,yy,yy,yy,nn,nn,nn,nn,nn,nn,nn,nn,nn,nn,nn,nn,nn,nn,nn,nn,nn,nn,nn] rfl rfl (one_of HT_.out (by kernel_rfl)) (by decide) (fun K hK => ?_)
                    refine goes_ Try.func16 (by kernel_rfl) rfl #[.agg #[.int .i64 ((rd_T30 l0 x3_1).f0), .int .i64 ((rd_T30 l0 x3_1).f1), .int .i64 ((rd_T30 l0 x3_1).f2), .int .i64 ((rd_T30 l0 x3_1).f3), .bool ((rd_T30 l0 x3_1).f4), .int .i64 ((rd_T30 l0 x3_1).f5), .int .i64 ((rd_T30 l0 x3_1).f6), .int .i64 ((rd_T30 l0 x3_1).f7), .int .i64 ((rd_T30 l0 x3_1).f8), .int .i64 ((rd_T30 l0 x3_1).f9), .int .i64 ((rd_T30 l0 x3_1).f10), .int .i64 ((rd_T30 l0 x3_1).f11), .int .i64 ((rd_T30 l0 x3_1).f12), .int .i64 ((rd_T30 l0 x3_1).f13)]] (by rfl) rfl rfl (by (try simp only [List.map_toArray, List.map_cons, List.map_nil]); first | done | rfl | (simp only [List.length_drop, List.length_take]; rfl)) ?_
                    with_reducible refine (spec_TaskOk.calls ((rd_T30 l0 x3_1).f0) ((rd_T30 l0 x3_1).f1) ((rd_T30 l0 x3_1).f2) ((rd_T30 l0 x3_1).f3) ((rd_T30 l0 x3_1).f4) ((rd_T30 l0 x3_1).f5) ((rd_T30 l0 x3_1).f6) ((rd_T30 l0 x3_1).f7) ((rd_T30 l0 x3_1).f8) ((rd_T30 l0 x3_1).f9) ((rd_T30 l0 x3_1).f10) ((rd_T30 l0 x3_1).f11) ((rd_T30 l0 x3_1).f12) ((rd_T30 l0 x3_1).f13) true _ A4.out).mono ?_
                    rintro e w12 ⟨rfl, hb⟩
                    refine ⟨_, rfl, ?_⟩
                    have n0_ := aM (below_step (bq HB) hb)
                    clear HB
                    have HB := n0_
                    clear n0_
                    (try clear hb)
                    (try clear hb2)
                    (try clear hk)
                    (try clear hi)
                    refine hK.out _ _ (mvt14 HB.out hw101_0 hw101_1 hw101_2 hw101_3 hw101_4 hw101_5 hw101_6 hw101_7 hw101_8 hw101_9 hw101_10 hw101_11 hw101_12 hw101_13 (mvt14 HB.out hw103_0 hw103_1 hw103_2 hw103_3 hw103_4 hw103_5 hw103_6 hw103_7 hw103_8 hw103_9 hw103_10 hw103_11 hw103_12 hw103_13 (mv14 HB.out hw104_0 hw104_1 hw104_2 hw104_3 hw104_4 hw104_5 hw104_6 hw104_7 hw104_8 hw104_9 hw104_10 hw104_11 hw104_12 hw104_13)) :) (fun hHeld => ?_)
                    clear hK K
                    refine nQ (N := some 14) ?_
                    refine pQ (i := 5) (N := some 15) #[yy,yy,yy,yy,yy,yy,nn,nn,nn,nn,nn,nn,nn,nn,nn,nn,nn,nn,nn,nn,nn,nn,nn,nn] (any_of HT_.out (by kernel_rfl)) ?_
                    refine pQ (i := 6) (N := some 16) #[yy,yy,yy,yy,yy,yy,yy,nn,nn,nn,nn,nn,nn,nn,nn,nn,nn,nn,nn,nn,nn,nn,nn,nn] (any_of HT_.out (by kernel_rfl)) ?_
                    refine pQ (i := 7) (N := some 17) #[yy,yy,yy,yy,yy,yy,yy,yy,nn,nn,nn,nn,nn,nn,nn,nn,nn,nn,nn,nn,nn,nn,nn,nn] (any_of HT_.out (by kernel_rfl)) ?_
                    refine pQ (i := 8) (N := some 18) #[yy,yy,yy,yy,yy,yy,yy,yy,yy,nn,nn,nn,nn,nn,nn,nn,nn,nn,nn,nn,nn,nn,nn,nn] (any_of HT_.out (by kernel_rfl)) ?_
                    refine pQ (i := 9) (N := some 19) #[yy,yy,yy,yy,yy,yy,yy,yy,yy,yy,nn,nn,nn,nn,nn,nn,nn,nn,nn,nn,nn,nn,nn,nn] (any_of HT_.out (by kernel_rfl)) ?_
                    refine pQ (i := 10) (N := some 20) #[yy,yy,yy,yy,yy,yy,yy,yy,yy,yy,yy,nn,nn,nn,nn,nn,nn,nn,nn,nn,nn,nn,nn,nn] (any_of HT_.out (by kernel_rfl)) ?_
                    refine pQ (i := 11) (N := some 21) #[yy,yy,yy,yy,yy,yy,yy,yy,yy,yy,yy,yy,nn,nn,nn,nn,nn,nn,nn,nn,nn,nn,nn,nn] (any_of HT_.out (by kernel_rfl)) ?_
                    refine pQ (i := 12) (N := some 22) #[yy,yy,yy,yy,yy,yy,yy,yy,yy,yy,yy,yy,yy,nn,nn,nn,nn,nn,nn,nn,nn,nn,nn,nn] (any_of HT_.out (by kernel_rfl)) ?_
                    refine pQ (i := 13) (N := some 23) #[yy,yy,yy,yy,yy,yy,yy,yy,yy,yy,yy,yy,yy,yy,nn,nn,nn,nn,nn,nn,nn,nn,nn,nn] (any_of HT_.out (by kernel_rfl)) ?_
                    refine pQ (i := 14) (N := some 24) #[yy,yy,yy,yy,yy,yy,yy,yy,yy,yy,yy,yy,yy,yy,yy,nn,nn,nn,nn,nn,nn,nn,nn,nn] (any_of HT_.out (by kernel_rfl)) ?_
                    refine pQ (i := 16) (N := some 26) #[yy,yy,yy,yy,yy,yy,yy,yy,yy,yy,yy,yy,yy,yy,yy,nn,yy,nn,nn,nn,nn,nn,nn,nn] (any_of HT_.out (by kernel_rfl)) ?_
                    refine pQ (i := 17) (N := some 27) #[yy,yy,yy,yy,yy,yy,yy,yy,yy,yy,yy,yy,yy,yy,yy,nn,yy,yy,nn,nn,nn,nn,nn,nn] (any_of HT_.out (by kernel_rfl)) ?_
                    refine pQ (i := 18) (N := some 28) #[yy,yy,yy,yy,yy,yy,yy,yy,yy,yy,yy,yy,yy,yy,yy,nn,yy,yy,yy,nn,nn,nn,nn,nn] (any_of HT_.out (by kernel_rfl)) ?_
                    refine pQ (i := 19) (N := some 29) #[yy,yy,yy,yy,yy,yy,yy,yy,yy,yy,yy,yy,yy,yy,yy,nn,yy,yy,yy,yy,nn,nn,nn,nn] (any_of HT_.out (by kernel_rfl)) ?_
                    refine tQ (i := 15) (N := some 25) #[yy,yy,yy,yy,yy,yy,yy,yy,yy,yy,yy,yy,yy,yy,yy,yy,yy,yy,yy,yy,nn,nn,nn,nn] (take_ofW HT_.out HW_.out (by kernel_rfl)) hHeld ?_
                    refine tQ (i := 20) (N := some 30) #[yy,yy,yy,yy,yy,yy,yy,yy,yy,yy,yy,yy,yy,yy,yy,yy,yy,yy,yy,yy,yy,nn,nn,nn] (take_ofW HT_.out HW_.out (by kernel_rfl)) hHeld ?_
                    refine pQ (i := 21) (N := some 31) #[yy,yy,yy,yy,yy,yy,yy,yy,yy,yy,yy,yy,yy,yy,yy,yy,yy,yy,yy,yy,yy,yy,nn,nn] (any_of HT_.out (by kernel_rfl)) ?_
                    refine pQ (i := 22) (N := some 32) #[yy,yy,yy,yy,yy,yy,yy,yy,yy,yy,yy,yy,yy,yy,yy,yy,yy,yy,yy,yy,yy,yy,yy,nn] (any_of HT_.out (by kernel_rfl)) ?_
                    refine pQ (i := 23) (N := some 33) #[yy,yy,yy,yy,yy,yy,yy,yy,yy,yy,yy,yy,yy,yy,yy,yy,yy,yy,yy,yy,yy,yy,yy,yy] (any_of HT_.out (by kernel_rfl)) ?_
                    refine done_ (done_of HT_.out (by kernel_rfl)) ?_
                    try go_wp2
                    go_ret
                    exact ⟨by first | rfl | (simp [errW_none, errW_some] <;> rfl) | (simp only [← hji7]; first | rfl | (simp [errW_none, errW_some] <;> rfl)) | (simp [*, errW_none, errW_some] <;> rfl), bq HB⟩
                  rw [if_neg c10] at H
                  have c10b0 : decide (((rd_T30 l0 x3_1).f0) ≤ ((rd_T30 l0 (ji7)).f0)) = false := decide_eq_false c10
                  clear c10
                  have H' := Aside0.mk H
                  clear H
                  try go_wp2
                  have n0_ := aM (below_drew1 HB.out)
                  clear HB
                  have HB := n0_
                  clear n0_
                  have p101 : 0 ≤ (x3_1 : Int) := of_decide_eq_true (by first | (with_reducible assumption) | assumption)
                  have q101 : x3_1 < (l0.length : Int) := of_decide_eq_true (by first | (with_reducible assumption) | assumption)
                  obtain ⟨ad101, e101, hx101_0, hx101_1, hx101_2, hx101_3, hx101_4, hx101_5, hx101_6, hx101_7, hx101_8, hx101_9, hx101_10, hx101_11, hx101_12, hx101_13⟩ := at_T30 HR0.out x3_1 p101 q101
                  have hw101_13 := hx101_13
                  have hw101_12 := hx101_12
                  have hw101_11 := hx101_11
                  have hw101_10 := hx101_10
                  have hw101_9 := hx101_9
                  have hw101_8 := hx101_8
                  have hw101_7 := hx101_7
                  have hw101_6 := hx101_6
                  have hw101_5 := hx101_5
                  have hw101_4 := hx101_4
                  have hw101_3 := hx101_3
                  have hw101_2 := hx101_2
                  have hw101_1 := hx101_1
                  have hw101_0 := hx101_0
                  cases e101
                  have hmv_ := mv14 HB.out hx101_0 hx101_1 hx101_2 hx101_3 hx101_4 hx101_5 hx101_6 hx101_7 hx101_8 hx101_9 hx101_10 hx101_11 hx101_12 hx101_13
                  clear hx101_0 hx101_1 hx101_2 hx101_3 hx101_4 hx101_5 hx101_6 hx101_7 hx101_8 hx101_9 hx101_10 hx101_11 hx101_12 hx101_13
                  obtain ⟨hx101_0, hx101_1, hx101_2, hx101_3, hx101_4, hx101_5, hx101_6, hx101_7, hx101_8, hx101_9, hx101_10, hx101_11, hx101_12, hx101_13⟩ := hmv_
                  replace p101 := eq_true p101
                  replace q101 := eq_true q101
                  have p103 : 0 ≤ ((ji7) : Int) := of_decide_eq_true (by first | (with_reducible assumption) | assumption)
                  have q103 : (ji7) < (l0.length : Int) := of_decide_eq_true (by first | (with_reducible assumption) | assumption)
                  obtain ⟨ad103, e103, hx103_0, hx103_1, hx103_2, hx103_3, hx103_4, hx103_5, hx103_6, hx103_7, hx103_8, hx103_9, hx103_10, hx103_11, hx103_12, hx103_13⟩ := at_T30 HR0.out (ji7) p103 q103
                  have hw103_13 := hx103_13
                  have hw103_12 := hx103_12
                  have hw103_11 := hx103_11
                  have hw103_10 := hx103_10
                  have hw103_9 := hx103_9
                  have hw103_8 := hx103_8
                  have hw103_7 := hx103_7
                  have hw103_6 := hx103_6
                  have hw103_5 := hx103_5
                  have hw103_4 := hx103_4
                  have hw103_3 := hx103_3
                  have hw103_2 := hx103_2
                  have hw103_1 := hx103_1
                  have hw103_0 := hx103_0
                  obtain rfl : ad101 = ad103 := (by injection e103)
                  have hmv_ := mv14 HB.out hx103_0 hx103_1 hx103_2 hx103_3 hx103_4 hx103_5 hx103_6 hx103_7 hx103_8 hx103_9 hx103_10 hx103_11 hx103_12 hx103_13
                  clear hx103_0 hx103_1 hx103_2 hx103_3 hx103_4 hx103_5 hx103_6 hx103_7 hx103_8 hx103_9 hx103_10 hx103_11 hx103_12 hx103_13
                  obtain ⟨hx103_0, hx103_1, hx103_2, hx103_3, hx103_4, hx103_5, hx103_6, hx103_7, hx103_8, hx103_9, hx103_10, hx103_11, hx103_12, hx103_13⟩ := hmv_
                  replace p103 := eq_true p103
                  replace q103 := eq_true q103
                  have p104 : 0 ≤ (x3_1 : Int) := of_decide_eq_true (by first | (with_reducible assumption) | assumption)
                  have q104 : x3_1 < (l0.length : Int) := of_decide_eq_true (by first | (with_reducible assumption) | assumption)
                  obtain ⟨ad104, e104, hx104_0, hx104_1, hx104_2, hx104_3, hx104_4, hx104_5, hx104_6, hx104_7, hx104_8, hx104_9, hx104_10, hx104_11, hx104_12, hx104_13⟩ := at_T30 HR0.out x3_1 p104 q104
                  have hw104_13 := hx104_13
                  have hw104_12 := hx104_12
                  have hw104_11 := hx104_11
                  have hw104_10 := hx104_10
                  have hw104_9 := hx104_9
                  have hw104_8 := hx104_8
                  have hw104_7 := hx104_7
                  have hw104_6 := hx104_6
                  have hw104_5 := hx104_5
                  have hw104_4 := hx104_4
                  have hw104_3 := hx104_3
                  have hw104_2 := hx104_2
                  have hw104_1 := hx104_1
                  have hw104_0 := hx104_0
                  obtain rfl : ad101 = ad104 := (by injection e104)
                  have hmv_ := mv14 HB.out hx104_0 hx104_1 hx104_2 hx104_3 hx104_4 hx104_5 hx104_6 hx104_7 hx104_8 hx104_9 hx104_10 hx104_11 hx104_12 hx104_13
                  clear hx104_0 hx104_1 hx104_2 hx104_3 hx104_4 hx104_5 hx104_6 hx104_7 hx104_8 hx104_9 hx104_10 hx104_11 hx104_12 hx104_13
                  obtain ⟨hx104_0, hx104_1, hx104_2, hx104_3, hx104_4, hx104_5, hx104_6, hx104_7, hx104_8, hx104_9, hx104_10, hx104_11, hx104_12, hx104_13⟩ := hmv_
                  replace p104 := eq_true p104
                  replace q104 := eq_true q104
                  refine start_ (n := 24) (S := fun w' => ca14t w' (ad101.add ((x3_1).toNat * 14)) (.int .i64 ((rd_T30 l0 x3_1).f0)) (.int .i64 ((rd_T30 l0 x3_1).f1)) (.int .i64 ((rd_T30 l0 x3_1).f2)) (.int .i64 ((rd_T30 l0 x3_1).f3)) (.bool ((rd_T30 l0 x3_1).f4)) (.int .i64 ((rd_T30 l0 x3_1).f5)) (.int .i64 ((rd_T30 l0 x3_1).f6)) (.int .i64 ((rd_T30 l0 x3_1).f7)) (.int .i64 ((rd_T30 l0 x3_1).f8)) (.int .i64 ((rd_T30 l0 x3_1).f9)) (.int .i64 ((rd_T30 l0 x3_1).f10)) (.int .i64 ((rd_T30 l0 x3_1).f11)) (.int .i64 ((rd_T30 l0 x3_1).f12)) (.int .i64 ((rd_T30 l0 x3_1).f13)) (ca14t w' (ad101.add (((ji7)).toNat * 14)) (.int .i64 ((rd_T30 l0 (ji7)).f0)) (.int .i64 ((rd_T30 l0 (ji7)).f1)) (.int .i64 ((rd_T30 l0 (ji7)).f2)) (.int .i64 ((rd_T30 l0 (ji7)).f3)) (.bool ((rd_T30 l0 (ji7)).f4)) (.int .i64 ((rd_T30 l0 (ji7)).f5)) (.int .i64 ((rd_T30 l0 (ji7)).f6)) (.int .i64 ((rd_T30 l0 (ji7)).f7)) (.int .i64 ((rd_T30 l0 (ji7)).f8)) (.int .i64 ((rd_T30 l0 (ji7)).f9)) (.int .i64 ((rd_T30 l0 (ji7)).f10)) (.int .i64 ((rd_T30 l0 (ji7)).f11)) (.int .i64 ((rd_T30 l0 (ji7)).f12)) (.int .i64 ((rd_T30 l0 (ji7)).f13)) (ca14 w' (ad101.add ((x3_1).toNat * 14)) (.int .i64 ((rd_T30 l0 x3_1).f0)) (.int .i64 ((rd_T30 l0 x3_1).f1)) (.int .i64 ((rd_T30 l0 x3_1).f2)) (.int .i64 ((rd_T30 l0 x3_1).f3)) (.bool ((rd_T30 l0 x3_1).f4)) (.int .i64 ((rd_T30 l0 x3_1).f5)) (.int .i64 ((rd_T30 l0 x3_1).f6)) (.int .i64 ((rd_T30 l0 x3_1).f7)) (.int .i64 ((rd_T30 l0 x3_1).f8)) (.int .i64 ((rd_T30 l0 x3_1).f9)) (.int .i64 ((rd_T30 l0 x3_1).f10)) (.int .i64 ((rd_T30 l0 x3_1).f11)) (.int .i64 ((rd_T30 l0 x3_1).f12)) (.int .i64 ((rd_T30 l0 x3_1).f13))))) (ds := []) #[nn,nn,nn,nn,nn,nn,nn,nn,nn,nn,nn,nn,nn,nn,nn,nn,nn,nn,nn,nn,nn,nn,nn,nn] (by kernel_rfl) rfl rfl ⟨((HB.out.cell (World.block_lt_of_cell? w _ hw101_0)).trans hw101_0), ((HB.out.cell (World.block_lt_of_cell? w _ hw101_1)).trans hw101_1), ((HB.out.cell (World.block_lt_of_cell? w _ hw101_2)).trans hw101_2), ((HB.out.cell (World.block_lt_of_cell? w _ hw101_3)).trans hw101_3), ((HB.out.cell (World.block_lt_of_cell? w _ hw101_4)).trans hw101_4), ((HB.out.cell (World.block_lt_of_cell? w _ hw101_5)).trans hw101_5), ((HB.out.cell (World.block_lt_of_cell? w _ hw101_6)).trans hw101_6), ((HB.out.cell (World.block_lt_of_cell? w _ hw101_7)).trans hw101_7), ((HB.out.cell (World.block_lt_of_cell? w _ hw101_8)).trans hw101_8), ((HB.out.cell (World.block_lt_of_cell? w _ hw101_9)).trans hw101_9), ((HB.out.cell (World.block_lt_of_cell? w _ hw101_10)).trans hw101_10), ((HB.out.cell (World.block_lt_of_cell? w _ hw101_11)).trans hw101_11), ((HB.out.cell (World.block_lt_of_cell? w _ hw101_12)).trans hw101_12), ((HB.out.cell (World.block_lt_of_cell? w _ hw101_13)).trans hw101_13), ((HB.out.cell (World.block_lt_of_cell? w _ hw103_0)).trans hw103_0), ((HB.out.cell (World.block_lt_of_cell? w _ hw103_1)).trans hw103_1), ((HB.out.cell (World.block_lt_of_cell? w _ hw103_2)).trans hw103_2), ((HB.out.cell (World.block_lt_of_cell? w _ hw103_3)).trans hw103_3), ((HB.out.cell (World.block_lt_of_cell? w _ hw103_4)).trans hw103_4), ((HB.out.cell (World.block_lt_of_cell? w _ hw103_5)).trans hw103_5), ((HB.out.cell (World.block_lt_of_cell? w _ hw103_6)).trans hw103_6), ((HB.out.cell (World.block_lt_of_cell? w _ hw103_7)).trans hw103_7), ((HB.out.cell (World.block_lt_of_cell? w _ hw103_8)).trans hw103_8), ((HB.out.cell (World.block_lt_of_cell? w _ hw103_9)).trans hw103_9), ((HB.out.cell (World.block_lt_of_cell? w _ hw103_10)).trans hw103_10), ((HB.out.cell (World.block_lt_of_cell? w _ hw103_11)).trans hw103_11), ((HB.out.cell (World.block_lt_of_cell? w _ hw103_12)).trans hw103_12), ((HB.out.cell (World.block_lt_of_cell? w _ hw103_13)).trans hw103_13), ((HB.out.cell (World.block_lt_of_cell? w _ hw104_0)).trans hw104_0), ((HB.out.cell (World.block_lt_of_cell? w _ hw104_1)).trans hw104_1), ((HB.out.cell (World.block_lt_of_cell? w _ hw104_2)).trans hw104_2), ((HB.out.cell (World.block_lt_of_cell? w _ hw104_3)).trans hw104_3), ((HB.out.cell (World.block_lt_of_cell? w _ hw104_4)).trans hw104_4), ((HB.out.cell (World.block_lt_of_cell? w _ hw104_5)).trans hw104_5), ((HB.out.cell (World.block_lt_of_cell? w _ hw104_6)).trans hw104_6), ((HB.out.cell (World.block_lt_of_cell? w _ hw104_7)).trans hw104_7), ((HB.out.cell (World.block_lt_of_cell? w _ hw104_8)).trans hw104_8), ((HB.out.cell (World.block_lt_of_cell? w _ hw104_9)).trans hw104_9), ((HB.out.cell (World.block_lt_of_cell? w _ hw104_10)).trans hw104_10), ((HB.out.cell (World.block_lt_of_cell? w _ hw104_11)).trans hw104_11), ((HB.out.cell (World.block_lt_of_cell? w _ hw104_12)).trans hw104_12), ((HB.out.cell (World.block_lt_of_cell? w _ hw104_13)).trans hw104_13)⟩ (fun hHeld => ?_); refine with_tabW spec_TasksOk.tab4 spec_TasksOk.bits4 (fun HT_ HW_ => ?_)
                  generalize wr.drew = w13 at HB hx101_0 hx101_1 hx101_10 hx101_11 hx101_12 hx101_13 hx101_2 hx101_3 hx101_4 hx101_5 hx101_6 hx101_7 hx101_8 hx101_9 hx103_0 hx103_1 hx103_10 hx103_11 hx103_12 hx103_13 hx103_2 hx103_3 hx103_4 hx103_5 hx103_6 hx103_7 hx103_8 hx103_9 hx104_0 hx104_1 hx104_10 hx104_11 hx104_12 hx104_13 hx104_2 hx104_3 hx104_4 hx104_5 hx104_6 hx104_7 hx104_8 hx104_9 hHeld ⊢
                  refine pQ (i := 0) (N := some 10) #[yy,nn,nn,nn,nn,nn,nn,nn,nn,nn,nn,nn,nn,nn,nn,nn,nn,nn,nn,nn,nn,nn,nn,nn] (any_of HT_.out (by kernel_rfl)) ?_
                  refine pQ (i := 1) (N := some 11) #[yy,yy,nn,nn,nn,nn,nn,nn,nn,nn,nn,nn,nn,nn,nn,nn,nn,nn,nn,nn,nn,nn,nn,nn] (any_of HT_.out (by kernel_rfl)) ?_
                  refine pQ (i := 2) (N := some 12) #[yy,yy,yy,nn,nn,nn,nn,nn,nn,nn,nn,nn,nn,nn,nn,nn,nn,nn,nn,nn,nn,nn,nn,nn] (any_of HT_.out (by kernel_rfl)) ?_
                  refine tQ (i := 3) (N := some 13) #[yy,yy,yy,yy,nn,nn,nn,nn,nn,nn,nn,nn,nn,nn,nn,nn,nn,nn,nn,nn,nn,nn,nn,nn] (take_ofW HT_.out HW_.out (by kernel_rfl)) hHeld ?_
                  refine one_ (i := 4) (N := some 14) #[yy,yy,yy,yy,yy,nn,nn,nn,nn,nn,nn,nn,nn,nn,nn,nn,nn,nn,nn,nn,nn,nn,nn,nn] rfl rfl (one_of HT_.out (by kernel_rfl)) (by decide) (fun K hK => ?_)
                  refine goes_ Try.func16 (by kernel_rfl) rfl #[.agg #[.int .i64 ((rd_T30 l0 x3_1).f0), .int .i64 ((rd_T30 l0 x3_1).f1), .int .i64 ((rd_T30 l0 x3_1).f2), .int .i64 ((rd_T30 l0 x3_1).f3), .bool ((rd_T30 l0 x3_1).f4), .int .i64 ((rd_T30 l0 x3_1).f5), .int .i64 ((rd_T30 l0 x3_1).f6), .int .i64 ((rd_T30 l0 x3_1).f7), .int .i64 ((rd_T30 l0 x3_1).f8), .int .i64 ((rd_T30 l0 x3_1).f9), .int .i64 ((rd_T30 l0 x3_1).f10), .int .i64 ((rd_T30 l0 x3_1).f11), .int .i64 ((rd_T30 l0 x3_1).f12), .int .i64 ((rd_T30 l0 x3_1).f13)]] (by rfl) rfl rfl (by (try simp only [List.map_toArray, List.map_cons, List.map_nil]); first | done | rfl | (simp only [List.length_drop, List.length_take]; rfl)) ?_
                  with_reducible refine (spec_TaskOk.calls ((rd_T30 l0 x3_1).f0) ((rd_T30 l0 x3_1).f1) ((rd_T30 l0 x3_1).f2) ((rd_T30 l0 x3_1).f3) ((rd_T30 l0 x3_1).f4) ((rd_T30 l0 x3_1).f5) ((rd_T30 l0 x3_1).f6) ((rd_T30 l0 x3_1).f7) ((rd_T30 l0 x3_1).f8) ((rd_T30 l0 x3_1).f9) ((rd_T30 l0 x3_1).f10) ((rd_T30 l0 x3_1).f11) ((rd_T30 l0 x3_1).f12) ((rd_T30 l0 x3_1).f13) true _ A4.out).mono ?_
                  rintro e w14 ⟨rfl, hb⟩
                  refine ⟨_, rfl, ?_⟩
                  have n0_ := aM (below_step (bq HB) hb)
                  clear HB
                  have HB := n0_
                  clear n0_
                  (try clear hb)
                  (try clear hb2)
                  (try clear hk)
                  (try clear hi)
                  refine hK.out _ _ (mvt14 HB.out hw101_0 hw101_1 hw101_2 hw101_3 hw101_4 hw101_5 hw101_6 hw101_7 hw101_8 hw101_9 hw101_10 hw101_11 hw101_12 hw101_13 (mvt14 HB.out hw103_0 hw103_1 hw103_2 hw103_3 hw103_4 hw103_5 hw103_6 hw103_7 hw103_8 hw103_9 hw103_10 hw103_11 hw103_12 hw103_13 (mv14 HB.out hw104_0 hw104_1 hw104_2 hw104_3 hw104_4 hw104_5 hw104_6 hw104_7 hw104_8 hw104_9 hw104_10 hw104_11 hw104_12 hw104_13)) :) (fun hHeld => ?_)
                  clear hK K
                  refine nQ (N := some 14) ?_
                  refine pQ (i := 5) (N := some 15) #[yy,yy,yy,yy,yy,yy,nn,nn,nn,nn,nn,nn,nn,nn,nn,nn,nn,nn,nn,nn,nn,nn,nn,nn] (any_of HT_.out (by kernel_rfl)) ?_
                  refine pQ (i := 6) (N := some 16) #[yy,yy,yy,yy,yy,yy,yy,nn,nn,nn,nn,nn,nn,nn,nn,nn,nn,nn,nn,nn,nn,nn,nn,nn] (any_of HT_.out (by kernel_rfl)) ?_
                  refine pQ (i := 7) (N := some 17) #[yy,yy,yy,yy,yy,yy,yy,yy,nn,nn,nn,nn,nn,nn,nn,nn,nn,nn,nn,nn,nn,nn,nn,nn] (any_of HT_.out (by kernel_rfl)) ?_
                  refine pQ (i := 8) (N := some 18) #[yy,yy,yy,yy,yy,yy,yy,yy,yy,nn,nn,nn,nn,nn,nn,nn,nn,nn,nn,nn,nn,nn,nn,nn] (any_of HT_.out (by kernel_rfl)) ?_
                  refine pQ (i := 9) (N := some 19) #[yy,yy,yy,yy,yy,yy,yy,yy,yy,yy,nn,nn,nn,nn,nn,nn,nn,nn,nn,nn,nn,nn,nn,nn] (any_of HT_.out (by kernel_rfl)) ?_
                  refine pQ (i := 10) (N := some 20) #[yy,yy,yy,yy,yy,yy,yy,yy,yy,yy,yy,nn,nn,nn,nn,nn,nn,nn,nn,nn,nn,nn,nn,nn] (any_of HT_.out (by kernel_rfl)) ?_
                  refine pQ (i := 11) (N := some 21) #[yy,yy,yy,yy,yy,yy,yy,yy,yy,yy,yy,yy,nn,nn,nn,nn,nn,nn,nn,nn,nn,nn,nn,nn] (any_of HT_.out (by kernel_rfl)) ?_
                  refine pQ (i := 12) (N := some 22) #[yy,yy,yy,yy,yy,yy,yy,yy,yy,yy,yy,yy,yy,nn,nn,nn,nn,nn,nn,nn,nn,nn,nn,nn] (any_of HT_.out (by kernel_rfl)) ?_
                  refine pQ (i := 13) (N := some 23) #[yy,yy,yy,yy,yy,yy,yy,yy,yy,yy,yy,yy,yy,yy,nn,nn,nn,nn,nn,nn,nn,nn,nn,nn] (any_of HT_.out (by kernel_rfl)) ?_
                  refine pQ (i := 14) (N := some 24) #[yy,yy,yy,yy,yy,yy,yy,yy,yy,yy,yy,yy,yy,yy,yy,nn,nn,nn,nn,nn,nn,nn,nn,nn] (any_of HT_.out (by kernel_rfl)) ?_
                  refine pQ (i := 16) (N := some 26) #[yy,yy,yy,yy,yy,yy,yy,yy,yy,yy,yy,yy,yy,yy,yy,nn,yy,nn,nn,nn,nn,nn,nn,nn] (any_of HT_.out (by kernel_rfl)) ?_
                  refine pQ (i := 17) (N := some 27) #[yy,yy,yy,yy,yy,yy,yy,yy,yy,yy,yy,yy,yy,yy,yy,nn,yy,yy,nn,nn,nn,nn,nn,nn] (any_of HT_.out (by kernel_rfl)) ?_
                  refine pQ (i := 18) (N := some 28) #[yy,yy,yy,yy,yy,yy,yy,yy,yy,yy,yy,yy,yy,yy,yy,nn,yy,yy,yy,nn,nn,nn,nn,nn] (any_of HT_.out (by kernel_rfl)) ?_
                  refine pQ (i := 19) (N := some 29) #[yy,yy,yy,yy,yy,yy,yy,yy,yy,yy,yy,yy,yy,yy,yy,nn,yy,yy,yy,yy,nn,nn,nn,nn] (any_of HT_.out (by kernel_rfl)) ?_
                  refine tQ (i := 15) (N := some 25) #[yy,yy,yy,yy,yy,yy,yy,yy,yy,yy,yy,yy,yy,yy,yy,yy,yy,yy,yy,yy,nn,nn,nn,nn] (take_ofW HT_.out HW_.out (by kernel_rfl)) hHeld ?_
                  refine tQ (i := 20) (N := some 30) #[yy,yy,yy,yy,yy,yy,yy,yy,yy,yy,yy,yy,yy,yy,yy,yy,yy,yy,yy,yy,yy,nn,nn,nn] (take_ofW HT_.out HW_.out (by kernel_rfl)) hHeld ?_
                  refine pQ (i := 21) (N := some 31) #[yy,yy,yy,yy,yy,yy,yy,yy,yy,yy,yy,yy,yy,yy,yy,yy,yy,yy,yy,yy,yy,yy,nn,nn] (any_of HT_.out (by kernel_rfl)) ?_
                  refine pQ (i := 22) (N := some 32) #[yy,yy,yy,yy,yy,yy,yy,yy,yy,yy,yy,yy,yy,yy,yy,yy,yy,yy,yy,yy,yy,yy,yy,nn] (any_of HT_.out (by kernel_rfl)) ?_
                  refine pQ (i := 23) (N := some 33) #[yy,yy,yy,yy,yy,yy,yy,yy,yy,yy,yy,yy,yy,yy,yy,yy,yy,yy,yy,yy,yy,yy,yy,yy] (any_of HT_.out (by kernel_rfl)) ?_
                  refine done_ (done_of HT_.out (by kernel_rfl)) ?_
                  try go_wp2
                  go_roundg k1
                  case measure => have := HK1.out; omega
                  case rel => exact ⟨(wrap64 (x3_1 + 1)), (by first | rfl | (simp; done) | (simp [*]; done)), H', ⟨by have := HK1.out; omega⟩, ⟨bq HB⟩⟩
                rw [if_neg c9] at H
                exact absurd H (by simp)
              rw [if_neg c8] at H
              exact absurd H (by simp)
            rw [if_neg c6] at H
            have c6b0 : decide (0 < x3_1) = false := decide_eq_false c6
            clear c6
            have H' := Aside0.mk H
            clear H
            try go_wp2
            have n0_ := aM (below_drew1 HB.out)
            clear HB
            have HB := n0_
            clear n0_
            have p101 : 0 ≤ (x3_1 : Int) := of_decide_eq_true (by first | (with_reducible assumption) | assumption)
            have q101 : x3_1 < (l0.length : Int) := of_decide_eq_true (by first | (with_reducible assumption) | assumption)
            obtain ⟨ad101, e101, hx101_0, hx101_1, hx101_2, hx101_3, hx101_4, hx101_5, hx101_6, hx101_7, hx101_8, hx101_9, hx101_10, hx101_11, hx101_12, hx101_13⟩ := at_T30 HR0.out x3_1 p101 q101
            have hw101_13 := hx101_13
            have hw101_12 := hx101_12
            have hw101_11 := hx101_11
            have hw101_10 := hx101_10
            have hw101_9 := hx101_9
            have hw101_8 := hx101_8
            have hw101_7 := hx101_7
            have hw101_6 := hx101_6
            have hw101_5 := hx101_5
            have hw101_4 := hx101_4
            have hw101_3 := hx101_3
            have hw101_2 := hx101_2
            have hw101_1 := hx101_1
            have hw101_0 := hx101_0
            cases e101
            have hmv_ := mv14 HB.out hx101_0 hx101_1 hx101_2 hx101_3 hx101_4 hx101_5 hx101_6 hx101_7 hx101_8 hx101_9 hx101_10 hx101_11 hx101_12 hx101_13
            clear hx101_0 hx101_1 hx101_2 hx101_3 hx101_4 hx101_5 hx101_6 hx101_7 hx101_8 hx101_9 hx101_10 hx101_11 hx101_12 hx101_13
            obtain ⟨hx101_0, hx101_1, hx101_2, hx101_3, hx101_4, hx101_5, hx101_6, hx101_7, hx101_8, hx101_9, hx101_10, hx101_11, hx101_12, hx101_13⟩ := hmv_
            replace p101 := eq_true p101
            replace q101 := eq_true q101
            refine start_ (n := 24) (S := fun w' => ca14 w' (ad101.add ((x3_1).toNat * 14)) (.int .i64 ((rd_T30 l0 x3_1).f0)) (.int .i64 ((rd_T30 l0 x3_1).f1)) (.int .i64 ((rd_T30 l0 x3_1).f2)) (.int .i64 ((rd_T30 l0 x3_1).f3)) (.bool ((rd_T30 l0 x3_1).f4)) (.int .i64 ((rd_T30 l0 x3_1).f5)) (.int .i64 ((rd_T30 l0 x3_1).f6)) (.int .i64 ((rd_T30 l0 x3_1).f7)) (.int .i64 ((rd_T30 l0 x3_1).f8)) (.int .i64 ((rd_T30 l0 x3_1).f9)) (.int .i64 ((rd_T30 l0 x3_1).f10)) (.int .i64 ((rd_T30 l0 x3_1).f11)) (.int .i64 ((rd_T30 l0 x3_1).f12)) (.int .i64 ((rd_T30 l0 x3_1).f13))) (ds := []) #[nn,nn,nn,nn,nn,nn,nn,nn,nn,nn,nn,nn,nn,nn,nn,nn,nn,nn,nn,nn,nn,nn,nn,nn] (by kernel_rfl) rfl rfl ⟨((HB.out.cell (World.block_lt_of_cell? w _ hw101_0)).trans hw101_0), ((HB.out.cell (World.block_lt_of_cell? w _ hw101_1)).trans hw101_1), ((HB.out.cell (World.block_lt_of_cell? w _ hw101_2)).trans hw101_2), ((HB.out.cell (World.block_lt_of_cell? w _ hw101_3)).trans hw101_3), ((HB.out.cell (World.block_lt_of_cell? w _ hw101_4)).trans hw101_4), ((HB.out.cell (World.block_lt_of_cell? w _ hw101_5)).trans hw101_5), ((HB.out.cell (World.block_lt_of_cell? w _ hw101_6)).trans hw101_6), ((HB.out.cell (World.block_lt_of_cell? w _ hw101_7)).trans hw101_7), ((HB.out.cell (World.block_lt_of_cell? w _ hw101_8)).trans hw101_8), ((HB.out.cell (World.block_lt_of_cell? w _ hw101_9)).trans hw101_9), ((HB.out.cell (World.block_lt_of_cell? w _ hw101_10)).trans hw101_10), ((HB.out.cell (World.block_lt_of_cell? w _ hw101_11)).trans hw101_11), ((HB.out.cell (World.block_lt_of_cell? w _ hw101_12)).trans hw101_12), ((HB.out.cell (World.block_lt_of_cell? w _ hw101_13)).trans hw101_13)⟩ (fun hHeld => ?_); refine with_tabW spec_TasksOk.tab4 spec_TasksOk.bits4 (fun HT_ HW_ => ?_)
            generalize wr.drew = w15 at HB hx101_0 hx101_1 hx101_10 hx101_11 hx101_12 hx101_13 hx101_2 hx101_3 hx101_4 hx101_5 hx101_6 hx101_7 hx101_8 hx101_9 hHeld ⊢
            refine pQ (i := 0) (N := some 10) #[yy,nn,nn,nn,nn,nn,nn,nn,nn,nn,nn,nn,nn,nn,nn,nn,nn,nn,nn,nn,nn,nn,nn,nn] (any_of HT_.out (by kernel_rfl)) ?_
            refine pQ (i := 1) (N := some 11) #[yy,yy,nn,nn,nn,nn,nn,nn,nn,nn,nn,nn,nn,nn,nn,nn,nn,nn,nn,nn,nn,nn,nn,nn] (any_of HT_.out (by kernel_rfl)) ?_
            refine pQ (i := 2) (N := some 12) #[yy,yy,yy,nn,nn,nn,nn,nn,nn,nn,nn,nn,nn,nn,nn,nn,nn,nn,nn,nn,nn,nn,nn,nn] (any_of HT_.out (by kernel_rfl)) ?_
            refine tQ (i := 3) (N := some 13) #[yy,yy,yy,yy,nn,nn,nn,nn,nn,nn,nn,nn,nn,nn,nn,nn,nn,nn,nn,nn,nn,nn,nn,nn] (take_ofW HT_.out HW_.out (by kernel_rfl)) hHeld ?_
            refine one_ (i := 4) (N := some 14) #[yy,yy,yy,yy,yy,nn,nn,nn,nn,nn,nn,nn,nn,nn,nn,nn,nn,nn,nn,nn,nn,nn,nn,nn] rfl rfl (one_of HT_.out (by kernel_rfl)) (by decide) (fun K hK => ?_)
            refine goes_ Try.func16 (by kernel_rfl) rfl #[.agg #[.int .i64 ((rd_T30 l0 x3_1).f0), .int .i64 ((rd_T30 l0 x3_1).f1), .int .i64 ((rd_T30 l0 x3_1).f2), .int .i64 ((rd_T30 l0 x3_1).f3), .bool ((rd_T30 l0 x3_1).f4), .int .i64 ((rd_T30 l0 x3_1).f5), .int .i64 ((rd_T30 l0 x3_1).f6), .int .i64 ((rd_T30 l0 x3_1).f7), .int .i64 ((rd_T30 l0 x3_1).f8), .int .i64 ((rd_T30 l0 x3_1).f9), .int .i64 ((rd_T30 l0 x3_1).f10), .int .i64 ((rd_T30 l0 x3_1).f11), .int .i64 ((rd_T30 l0 x3_1).f12), .int .i64 ((rd_T30 l0 x3_1).f13)]] (by rfl) rfl rfl (by (try simp only [List.map_toArray, List.map_cons, List.map_nil]); first | done | rfl | (simp only [List.length_drop, List.length_take]; rfl)) ?_
            with_reducible refine (spec_TaskOk.calls ((rd_T30 l0 x3_1).f0) ((rd_T30 l0 x3_1).f1) ((rd_T30 l0 x3_1).f2) ((rd_T30 l0 x3_1).f3) ((rd_T30 l0 x3_1).f4) ((rd_T30 l0 x3_1).f5) ((rd_T30 l0 x3_1).f6) ((rd_T30 l0 x3_1).f7) ((rd_T30 l0 x3_1).f8) ((rd_T30 l0 x3_1).f9) ((rd_T30 l0 x3_1).f10) ((rd_T30 l0 x3_1).f11) ((rd_T30 l0 x3_1).f12) ((rd_T30 l0 x3_1).f13) true _ A4.out).mono ?_
            rintro e w16 ⟨rfl, hb⟩
            refine ⟨_, rfl, ?_⟩
            have n0_ := aM (below_step (bq HB) hb)
            clear HB
            have HB := n0_
            clear n0_
            (try clear hb)
            (try clear hb2)
            (try clear hk)
            (try clear hi)
            refine hK.out _ _ (mv14 HB.out hw101_0 hw101_1 hw101_2 hw101_3 hw101_4 hw101_5 hw101_6 hw101_7 hw101_8 hw101_9 hw101_10 hw101_11 hw101_12 hw101_13 :) (fun hHeld => ?_)
            clear hK K
            refine nQ (N := some 14) ?_
            refine pQ (i := 5) (N := some 15) #[yy,yy,yy,yy,yy,yy,nn,nn,nn,nn,nn,nn,nn,nn,nn,nn,nn,nn,nn,nn,nn,nn,nn,nn] (any_of HT_.out (by kernel_rfl)) ?_
            refine pQ (i := 6) (N := some 16) #[yy,yy,yy,yy,yy,yy,yy,nn,nn,nn,nn,nn,nn,nn,nn,nn,nn,nn,nn,nn,nn,nn,nn,nn] (any_of HT_.out (by kernel_rfl)) ?_
            refine pQ (i := 7) (N := some 17) #[yy,yy,yy,yy,yy,yy,yy,yy,nn,nn,nn,nn,nn,nn,nn,nn,nn,nn,nn,nn,nn,nn,nn,nn] (any_of HT_.out (by kernel_rfl)) ?_
            refine pQ (i := 8) (N := some 18) #[yy,yy,yy,yy,yy,yy,yy,yy,yy,nn,nn,nn,nn,nn,nn,nn,nn,nn,nn,nn,nn,nn,nn,nn] (any_of HT_.out (by kernel_rfl)) ?_
            refine pQ (i := 9) (N := some 19) #[yy,yy,yy,yy,yy,yy,yy,yy,yy,yy,nn,nn,nn,nn,nn,nn,nn,nn,nn,nn,nn,nn,nn,nn] (any_of HT_.out (by kernel_rfl)) ?_
            refine pure_ (i := 10) (N := some 20) (v := undef) (a' := ?_) #[yy,yy,yy,yy,yy,yy,yy,yy,yy,yy,yy,nn,nn,nn,nn,nn,nn,nn,nn,nn,nn,nn,nn,nn] rfl rfl (any_of HT_.out (by kernel_rfl)) (fun _ _ _ h => h) (Or.inr ⟨by rfl, rfl⟩) ?_ ?_
            rotate_left
            · simp only [Act.put, tA, tB, tC, i64_w, i32_w]
              rfl
            refine pure_ (i := 11) (N := some 21) (v := undef) (a' := ?_) #[yy,yy,yy,yy,yy,yy,yy,yy,yy,yy,yy,yy,nn,nn,nn,nn,nn,nn,nn,nn,nn,nn,nn,nn] rfl rfl (any_of HT_.out (by kernel_rfl)) (fun _ _ _ h => h) (Or.inr ⟨by rfl, rfl⟩) ?_ ?_
            rotate_left
            · simp only [Act.put, tA, tB, tC, i64_w, i32_w]
              rfl
            refine pure_ (i := 12) (N := some 22) (v := undef) (a' := ?_) #[yy,yy,yy,yy,yy,yy,yy,yy,yy,yy,yy,yy,yy,nn,nn,nn,nn,nn,nn,nn,nn,nn,nn,nn] rfl rfl (any_of HT_.out (by kernel_rfl)) (fun _ _ _ h => h) (Or.inr ⟨by rfl, rfl⟩) ?_ ?_
            rotate_left
            · simp only [Act.put, tA, tB, tC, i64_w, i32_w]
              rfl
            refine pure_ (i := 13) (N := some 23) (v := undef) (a' := ?_) #[yy,yy,yy,yy,yy,yy,yy,yy,yy,yy,yy,yy,yy,yy,nn,nn,nn,nn,nn,nn,nn,nn,nn,nn] rfl rfl (any_of HT_.out (by kernel_rfl)) (fun _ _ _ h => h) (Or.inr ⟨by rfl, rfl⟩) ?_ ?_
            rotate_left
            · simp only [Act.put, tA, tB, tC, i64_w, i32_w]
              rfl
            refine pure_ (i := 14) (N := some 24) (v := undef) (a' := ?_) #[yy,yy,yy,yy,yy,yy,yy,yy,yy,yy,yy,yy,yy,yy,yy,nn,nn,nn,nn,nn,nn,nn,nn,nn] rfl rfl (any_of HT_.out (by kernel_rfl)) (fun _ _ _ h => h) (Or.inr ⟨by rfl, rfl⟩) ?_ ?_
            rotate_left
            · simp only [Act.put, tA, tB, tC, i64_w, i32_w]
              rfl
            refine pure_ (i := 15) (N := some 25) (v := undef) (a' := ?_) #[yy,yy,yy,yy,yy,yy,yy,yy,yy,yy,yy,yy,yy,yy,yy,yy,nn,nn,nn,nn,nn,nn,nn,nn] rfl rfl (any_of HT_.out (by kernel_rfl)) (fun _ _ _ h => h) (Or.inr ⟨by rfl, rfl⟩) ?_ ?_
            rotate_left
            · simp only [Act.put, tA, tB, tC, i64_w, i32_w]
              rfl
            refine pure_ (i := 16) (N := some 26) (v := undef) (a' := ?_) #[yy,yy,yy,yy,yy,yy,yy,yy,yy,yy,yy,yy,yy,yy,yy,yy,yy,nn,nn,nn,nn,nn,nn,nn] rfl rfl (any_of HT_.out (by kernel_rfl)) (fun _ _ _ h => h) (Or.inr ⟨by rfl, rfl⟩) ?_ ?_
            rotate_left
            · simp only [Act.put, tA, tB, tC, i64_w, i32_w]
              rfl
            refine pure_ (i := 17) (N := some 27) (v := undef) (a' := ?_) #[yy,yy,yy,yy,yy,yy,yy,yy,yy,yy,yy,yy,yy,yy,yy,yy,yy,yy,nn,nn,nn,nn,nn,nn] rfl rfl (any_of HT_.out (by kernel_rfl)) (fun _ _ _ h => h) (Or.inr ⟨by rfl, rfl⟩) ?_ ?_
            rotate_left
            · simp only [Act.put, tA, tB, tC, i64_w, i32_w]
              rfl
            refine pure_ (i := 18) (N := some 28) (v := undef) (a' := ?_) #[yy,yy,yy,yy,yy,yy,yy,yy,yy,yy,yy,yy,yy,yy,yy,yy,yy,yy,yy,nn,nn,nn,nn,nn] rfl rfl (any_of HT_.out (by kernel_rfl)) (fun _ _ _ h => h) (Or.inr ⟨by rfl, rfl⟩) ?_ ?_
            rotate_left
            · simp only [Act.put, tA, tB, tC, i64_w, i32_w]
              rfl
            refine pure_ (i := 19) (N := some 29) (v := undef) (a' := ?_) #[yy,yy,yy,yy,yy,yy,yy,yy,yy,yy,yy,yy,yy,yy,yy,yy,yy,yy,yy,yy,nn,nn,nn,nn] rfl rfl (any_of HT_.out (by kernel_rfl)) (fun _ _ _ h => h) (Or.inr ⟨by rfl, rfl⟩) ?_ ?_
            rotate_left
            · simp only [Act.put, tA, tB, tC, i64_w, i32_w]
              rfl
            refine pure_ (i := 20) (N := some 30) (v := undef) (a' := ?_) #[yy,yy,yy,yy,yy,yy,yy,yy,yy,yy,yy,yy,yy,yy,yy,yy,yy,yy,yy,yy,yy,nn,nn,nn] rfl rfl (any_of HT_.out (by kernel_rfl)) (fun _ _ _ h => h) (Or.inr ⟨by rfl, rfl⟩) ?_ ?_
            rotate_left
            · simp only [Act.put, tA, tB, tC, i64_w, i32_w]
              rfl
            refine pure_ (i := 21) (N := some 31) (v := undef) (a' := ?_) #[yy,yy,yy,yy,yy,yy,yy,yy,yy,yy,yy,yy,yy,yy,yy,yy,yy,yy,yy,yy,yy,yy,nn,nn] rfl rfl (any_of HT_.out (by kernel_rfl)) (fun _ _ _ h => h) (Or.inr ⟨by rfl, rfl⟩) ?_ ?_
            rotate_left
            · simp only [Act.put, tA, tB, tC, i64_w, i32_w]
              rfl
            refine pQ (i := 22) (N := some 32) #[yy,yy,yy,yy,yy,yy,yy,yy,yy,yy,yy,yy,yy,yy,yy,yy,yy,yy,yy,yy,yy,yy,yy,nn] (any_of HT_.out (by kernel_rfl)) ?_
            refine pQ (i := 23) (N := some 33) #[yy,yy,yy,yy,yy,yy,yy,yy,yy,yy,yy,yy,yy,yy,yy,yy,yy,yy,yy,yy,yy,yy,yy,yy] (any_of HT_.out (by kernel_rfl)) ?_
            refine done_ (done_of HT_.out (by kernel_rfl)) ?_
            try go_wp2
            go_roundg k1
            case measure => have := HK1.out; omega
            case rel => exact ⟨(wrap64 (x3_1 + 1)), (by first | rfl | (simp; done) | (simp [*]; done)), H', ⟨by have := HK1.out; omega⟩, ⟨bq HB⟩⟩
          replace c5 := Bool.eq_false_iff.mpr c5
          subst c5
          have H1 : (some false) = some r := by rw [if_neg (show ¬ (false = true) by decide)] at H; exact H
          clear H
          have H := H1
          clear H1
          obtain rfl := Option.some.inj H
          try go_wp2
          have n0_ := aM (below_drew1 HB.out)
          clear HB
          have HB := n0_
          clear n0_
          have p101 : 0 ≤ (x3_1 : Int) := of_decide_eq_true (by first | (with_reducible assumption) | assumption)
          have q101 : x3_1 < (l0.length : Int) := of_decide_eq_true (by first | (with_reducible assumption) | assumption)
          obtain ⟨ad101, e101, hx101_0, hx101_1, hx101_2, hx101_3, hx101_4, hx101_5, hx101_6, hx101_7, hx101_8, hx101_9, hx101_10, hx101_11, hx101_12, hx101_13⟩ := at_T30 HR0.out x3_1 p101 q101
          have hw101_13 := hx101_13
          have hw101_12 := hx101_12
          have hw101_11 := hx101_11
          have hw101_10 := hx101_10
          have hw101_9 := hx101_9
          have hw101_8 := hx101_8
          have hw101_7 := hx101_7
          have hw101_6 := hx101_6
          have hw101_5 := hx101_5
          have hw101_4 := hx101_4
          have hw101_3 := hx101_3
          have hw101_2 := hx101_2
          have hw101_1 := hx101_1
          have hw101_0 := hx101_0
          cases e101
          have hmv_ := mv14 HB.out hx101_0 hx101_1 hx101_2 hx101_3 hx101_4 hx101_5 hx101_6 hx101_7 hx101_8 hx101_9 hx101_10 hx101_11 hx101_12 hx101_13
          clear hx101_0 hx101_1 hx101_2 hx101_3 hx101_4 hx101_5 hx101_6 hx101_7 hx101_8 hx101_9 hx101_10 hx101_11 hx101_12 hx101_13
          obtain ⟨hx101_0, hx101_1, hx101_2, hx101_3, hx101_4, hx101_5, hx101_6, hx101_7, hx101_8, hx101_9, hx101_10, hx101_11, hx101_12, hx101_13⟩ := hmv_
          replace p101 := eq_true p101
          replace q101 := eq_true q101
          refine start_ (n := 24) (S := fun w' => ca14 w' (ad101.add ((x3_1).toNat * 14)) (.int .i64 ((rd_T30 l0 x3_1).f0)) (.int .i64 ((rd_T30 l0 x3_1).f1)) (.int .i64 ((rd_T30 l0 x3_1).f2)) (.int .i64 ((rd_T30 l0 x3_1).f3)) (.bool ((rd_T30 l0 x3_1).f4)) (.int .i64 ((rd_T30 l0 x3_1).f5)) (.int .i64 ((rd_T30 l0 x3_1).f6)) (.int .i64 ((rd_T30 l0 x3_1).f7)) (.int .i64 ((rd_T30 l0 x3_1).f8)) (.int .i64 ((rd_T30 l0 x3_1).f9)) (.int .i64 ((rd_T30 l0 x3_1).f10)) (.int .i64 ((rd_T30 l0 x3_1).f11)) (.int .i64 ((rd_T30 l0 x3_1).f12)) (.int .i64 ((rd_T30 l0 x3_1).f13))) (ds := []) #[nn,nn,nn,nn,nn,nn,nn,nn,nn,nn,nn,nn,nn,nn,nn,nn,nn,nn,nn,nn,nn,nn,nn,nn] (by kernel_rfl) rfl rfl ⟨((HB.out.cell (World.block_lt_of_cell? w _ hw101_0)).trans hw101_0), ((HB.out.cell (World.block_lt_of_cell? w _ hw101_1)).trans hw101_1), ((HB.out.cell (World.block_lt_of_cell? w _ hw101_2)).trans hw101_2), ((HB.out.cell (World.block_lt_of_cell? w _ hw101_3)).trans hw101_3), ((HB.out.cell (World.block_lt_of_cell? w _ hw101_4)).trans hw101_4), ((HB.out.cell (World.block_lt_of_cell? w _ hw101_5)).trans hw101_5), ((HB.out.cell (World.block_lt_of_cell? w _ hw101_6)).trans hw101_6), ((HB.out.cell (World.block_lt_of_cell? w _ hw101_7)).trans hw101_7), ((HB.out.cell (World.block_lt_of_cell? w _ hw101_8)).trans hw101_8), ((HB.out.cell (World.block_lt_of_cell? w _ hw101_9)).trans hw101_9), ((HB.out.cell (World.block_lt_of_cell? w _ hw101_10)).trans hw101_10), ((HB.out.cell (World.block_lt_of_cell? w _ hw101_11)).trans hw101_11), ((HB.out.cell (World.block_lt_of_cell? w _ hw101_12)).trans hw101_12), ((HB.out.cell (World.block_lt_of_cell? w _ hw101_13)).trans hw101_13)⟩ (fun hHeld => ?_); refine with_tabW spec_TasksOk.tab4 spec_TasksOk.bits4 (fun HT_ HW_ => ?_)
          generalize wr.drew = w17 at HB hx101_0 hx101_1 hx101_10 hx101_11 hx101_12 hx101_13 hx101_2 hx101_3 hx101_4 hx101_5 hx101_6 hx101_7 hx101_8 hx101_9 hHeld ⊢
          refine pQ (i := 0) (N := some 10) #[yy,nn,nn,nn,nn,nn,nn,nn,nn,nn,nn,nn,nn,nn,nn,nn,nn,nn,nn,nn,nn,nn,nn,nn] (any_of HT_.out (by kernel_rfl)) ?_
          refine pQ (i := 1) (N := some 11) #[yy,yy,nn,nn,nn,nn,nn,nn,nn,nn,nn,nn,nn,nn,nn,nn,nn,nn,nn,nn,nn,nn,nn,nn] (any_of HT_.out (by kernel_rfl)) ?_
          refine pQ (i := 2) (N := some 12) #[yy,yy,yy,nn,nn,nn,nn,nn,nn,nn,nn,nn,nn,nn,nn,nn,nn,nn,nn,nn,nn,nn,nn,nn] (any_of HT_.out (by kernel_rfl)) ?_
          refine tQ (i := 3) (N := some 13) #[yy,yy,yy,yy,nn,nn,nn,nn,nn,nn,nn,nn,nn,nn,nn,nn,nn,nn,nn,nn,nn,nn,nn,nn] (take_ofW HT_.out HW_.out (by kernel_rfl)) hHeld ?_
          refine one_ (i := 4) (N := some 14) #[yy,yy,yy,yy,yy,nn,nn,nn,nn,nn,nn,nn,nn,nn,nn,nn,nn,nn,nn,nn,nn,nn,nn,nn] rfl rfl (one_of HT_.out (by kernel_rfl)) (by decide) (fun K hK => ?_)
          refine goes_ Try.func16 (by kernel_rfl) rfl #[.agg #[.int .i64 ((rd_T30 l0 x3_1).f0), .int .i64 ((rd_T30 l0 x3_1).f1), .int .i64 ((rd_T30 l0 x3_1).f2), .int .i64 ((rd_T30 l0 x3_1).f3), .bool ((rd_T30 l0 x3_1).f4), .int .i64 ((rd_T30 l0 x3_1).f5), .int .i64 ((rd_T30 l0 x3_1).f6), .int .i64 ((rd_T30 l0 x3_1).f7), .int .i64 ((rd_T30 l0 x3_1).f8), .int .i64 ((rd_T30 l0 x3_1).f9), .int .i64 ((rd_T30 l0 x3_1).f10), .int .i64 ((rd_T30 l0 x3_1).f11), .int .i64 ((rd_T30 l0 x3_1).f12), .int .i64 ((rd_T30 l0 x3_1).f13)]] (by rfl) rfl rfl (by (try simp only [List.map_toArray, List.map_cons, List.map_nil]); first | done | rfl | (simp only [List.length_drop, List.length_take]; rfl)) ?_
          with_reducible refine (spec_TaskOk.calls ((rd_T30 l0 x3_1).f0) ((rd_T30 l0 x3_1).f1) ((rd_T30 l0 x3_1).f2) ((rd_T30 l0 x3_1).f3) ((rd_T30 l0 x3_1).f4) ((rd_T30 l0 x3_1).f5) ((rd_T30 l0 x3_1).f6) ((rd_T30 l0 x3_1).f7) ((rd_T30 l0 x3_1).f8) ((rd_T30 l0 x3_1).f9) ((rd_T30 l0 x3_1).f10) ((rd_T30 l0 x3_1).f11) ((rd_T30 l0 x3_1).f12) ((rd_T30 l0 x3_1).f13) false _ A4.out).mono ?_
          rintro e w18 ⟨rfl, hb⟩
          refine ⟨_, rfl, ?_⟩
          have n0_ := aM (below_step (bq HB) hb)
          clear HB
          have HB := n0_
          clear n0_
          (try clear hb)
          (try clear hb2)
          (try clear hk)
          (try clear hi)
          refine hK.out _ _ (mv14 HB.out hw101_0 hw101_1 hw101_2 hw101_3 hw101_4 hw101_5 hw101_6 hw101_7 hw101_8 hw101_9 hw101_10 hw101_11 hw101_12 hw101_13 :) (fun hHeld => ?_)
          clear hK K
          refine nQ (N := some 14) ?_
          refine pQ (i := 5) (N := some 15) #[yy,yy,yy,yy,yy,yy,nn,nn,nn,nn,nn,nn,nn,nn,nn,nn,nn,nn,nn,nn,nn,nn,nn,nn] (any_of HT_.out (by kernel_rfl)) ?_
          refine pQ (i := 6) (N := some 16) #[yy,yy,yy,yy,yy,yy,yy,nn,nn,nn,nn,nn,nn,nn,nn,nn,nn,nn,nn,nn,nn,nn,nn,nn] (any_of HT_.out (by kernel_rfl)) ?_
          refine pure_ (i := 7) (N := some 17) (v := undef) (a' := ?_) #[yy,yy,yy,yy,yy,yy,yy,yy,nn,nn,nn,nn,nn,nn,nn,nn,nn,nn,nn,nn,nn,nn,nn,nn] rfl rfl (any_of HT_.out (by kernel_rfl)) (fun _ _ _ h => h) (Or.inr ⟨by rfl, rfl⟩) ?_ ?_
          rotate_left
          · simp only [Act.put, tA, tB, tC, i64_w, i32_w]
            rfl
          refine pure_ (i := 8) (N := some 18) (v := undef) (a' := ?_) #[yy,yy,yy,yy,yy,yy,yy,yy,yy,nn,nn,nn,nn,nn,nn,nn,nn,nn,nn,nn,nn,nn,nn,nn] rfl rfl (any_of HT_.out (by kernel_rfl)) (fun _ _ _ h => h) (Or.inr ⟨by rfl, rfl⟩) ?_ ?_
          rotate_left
          · simp only [Act.put, tA, tB, tC, i64_w, i32_w]
            rfl
          refine pure_ (i := 9) (N := some 19) (v := undef) (a' := ?_) #[yy,yy,yy,yy,yy,yy,yy,yy,yy,yy,nn,nn,nn,nn,nn,nn,nn,nn,nn,nn,nn,nn,nn,nn] rfl rfl (any_of HT_.out (by kernel_rfl)) (fun _ _ _ h => h) (Or.inr ⟨by rfl, rfl⟩) ?_ ?_
          rotate_left
          · simp only [Act.put, tA, tB, tC, i64_w, i32_w]
            rfl
          refine pure_ (i := 10) (N := some 20) (v := undef) (a' := ?_) #[yy,yy,yy,yy,yy,yy,yy,yy,yy,yy,yy,nn,nn,nn,nn,nn,nn,nn,nn,nn,nn,nn,nn,nn] rfl rfl (any_of HT_.out (by kernel_rfl)) (fun _ _ _ h => h) (Or.inr ⟨by rfl, rfl⟩) ?_ ?_
          rotate_left
          · simp only [Act.put, tA, tB, tC, i64_w, i32_w]
            rfl
          refine pure_ (i := 11) (N := some 21) (v := undef) (a' := ?_) #[yy,yy,yy,yy,yy,yy,yy,yy,yy,yy,yy,yy,nn,nn,nn,nn,nn,nn,nn,nn,nn,nn,nn,nn] rfl rfl (any_of HT_.out (by kernel_rfl)) (fun _ _ _ h => h) (Or.inr ⟨by rfl, rfl⟩) ?_ ?_
          rotate_left
          · simp only [Act.put, tA, tB, tC, i64_w, i32_w]
            rfl
          refine pure_ (i := 12) (N := some 22) (v := undef) (a' := ?_) #[yy,yy,yy,yy,yy,yy,yy,yy,yy,yy,yy,yy,yy,nn,nn,nn,nn,nn,nn,nn,nn,nn,nn,nn] rfl rfl (any_of HT_.out (by kernel_rfl)) (fun _ _ _ h => h) (Or.inr ⟨by rfl, rfl⟩) ?_ ?_
          rotate_left
          · simp only [Act.put, tA, tB, tC, i64_w, i32_w]
            rfl
          refine pure_ (i := 13) (N := some 23) (v := undef) (a' := ?_) #[yy,yy,yy,yy,yy,yy,yy,yy,yy,yy,yy,yy,yy,yy,nn,nn,nn,nn,nn,nn,nn,nn,nn,nn] rfl rfl (any_of HT_.out (by kernel_rfl)) (fun _ _ _ h => h) (Or.inr ⟨by rfl, rfl⟩) ?_ ?_
          rotate_left
          · simp only [Act.put, tA, tB, tC, i64_w, i32_w]
            rfl
          refine pure_ (i := 14) (N := some 24) (v := undef) (a' := ?_) #[yy,yy,yy,yy,yy,yy,yy,yy,yy,yy,yy,yy,yy,yy,yy,nn,nn,nn,nn,nn,nn,nn,nn,nn] rfl rfl (any_of HT_.out (by kernel_rfl)) (fun _ _ _ h => h) (Or.inr ⟨by rfl, rfl⟩) ?_ ?_
          rotate_left
          · simp only [Act.put, tA, tB, tC, i64_w, i32_w]
            rfl
          refine pure_ (i := 15) (N := some 25) (v := undef) (a' := ?_) #[yy,yy,yy,yy,yy,yy,yy,yy,yy,yy,yy,yy,yy,yy,yy,yy,nn,nn,nn,nn,nn,nn,nn,nn] rfl rfl (any_of HT_.out (by kernel_rfl)) (fun _ _ _ h => h) (Or.inr ⟨by rfl, rfl⟩) ?_ ?_
          rotate_left
          · simp only [Act.put, tA, tB, tC, i64_w, i32_w]
            rfl
          refine pure_ (i := 16) (N := some 26) (v := undef) (a' := ?_) #[yy,yy,yy,yy,yy,yy,yy,yy,yy,yy,yy,yy,yy,yy,yy,yy,yy,nn,nn,nn,nn,nn,nn,nn] rfl rfl (any_of HT_.out (by kernel_rfl)) (fun _ _ _ h => h) (Or.inr ⟨by rfl, rfl⟩) ?_ ?_
          rotate_left
          · simp only [Act.put, tA, tB, tC, i64_w, i32_w]
            rfl
          refine pure_ (i := 17) (N := some 27) (v := undef) (a' := ?_) #[yy,yy,yy,yy,yy,yy,yy,yy,yy,yy,yy,yy,yy,yy,yy,yy,yy,yy,nn,nn,nn,nn,nn,nn] rfl rfl (any_of HT_.out (by kernel_rfl)) (fun _ _ _ h => h) (Or.inr ⟨by rfl, rfl⟩) ?_ ?_
          rotate_left
          · simp only [Act.put, tA, tB, tC, i64_w, i32_w]
            rfl
          refine pure_ (i := 18) (N := some 28) (v := undef) (a' := ?_) #[yy,yy,yy,yy,yy,yy,yy,yy,yy,yy,yy,yy,yy,yy,yy,yy,yy,yy,yy,nn,nn,nn,nn,nn] rfl rfl (any_of HT_.out (by kernel_rfl)) (fun _ _ _ h => h) (Or.inr ⟨by rfl, rfl⟩) ?_ ?_
          rotate_left
          · simp only [Act.put, tA, tB, tC, i64_w, i32_w]
            rfl
          refine pure_ (i := 19) (N := some 29) (v := undef) (a' := ?_) #[yy,yy,yy,yy,yy,yy,yy,yy,yy,yy,yy,yy,yy,yy,yy,yy,yy,yy,yy,yy,nn,nn,nn,nn] rfl rfl (any_of HT_.out (by kernel_rfl)) (fun _ _ _ h => h) (Or.inr ⟨by rfl, rfl⟩) ?_ ?_
          rotate_left
          · simp only [Act.put, tA, tB, tC, i64_w, i32_w]
            rfl
          refine pure_ (i := 20) (N := some 30) (v := undef) (a' := ?_) #[yy,yy,yy,yy,yy,yy,yy,yy,yy,yy,yy,yy,yy,yy,yy,yy,yy,yy,yy,yy,yy,nn,nn,nn] rfl rfl (any_of HT_.out (by kernel_rfl)) (fun _ _ _ h => h) (Or.inr ⟨by rfl, rfl⟩) ?_ ?_
          rotate_left
          · simp only [Act.put, tA, tB, tC, i64_w, i32_w]
            rfl
          refine pure_ (i := 21) (N := some 31) (v := undef) (a' := ?_) #[yy,yy,yy,yy,yy,yy,yy,yy,yy,yy,yy,yy,yy,yy,yy,yy,yy,yy,yy,yy,yy,yy,nn,nn] rfl rfl (any_of HT_.out (by kernel_rfl)) (fun _ _ _ h => h) (Or.inr ⟨by rfl, rfl⟩) ?_ ?_
          rotate_left
          · simp only [Act.put, tA, tB, tC, i64_w, i32_w]
            rfl
          refine pure_ (i := 22) (N := some 32) (v := undef) (a' := ?_) #[yy,yy,yy,yy,yy,yy,yy,yy,yy,yy,yy,yy,yy,yy,yy,yy,yy,yy,yy,yy,yy,yy,yy,nn] rfl rfl (any_of HT_.out (by kernel_rfl)) (fun _ _ _ h => h) (Or.inr ⟨by rfl, rfl⟩) ?_ ?_
          rotate_left
          · simp only [Act.put, tA, tB, tC, i64_w, i32_w]
            rfl
          refine pQ (i := 23) (N := some 33) #[yy,yy,yy,yy,yy,yy,yy,yy,yy,yy,yy,yy,yy,yy,yy,yy,yy,yy,yy,yy,yy,yy,yy,yy] (any_of HT_.out (by kernel_rfl)) ?_
          refine done_ (done_of HT_.out (by kernel_rfl)) ?_
          try go_wp2
          go_ret
          exact ⟨by first | rfl | (simp <;> rfl) | (simp [*] <;> rfl), bq HB⟩
        rw [if_neg c3] at H
        exact absurd H (by simp)
      rw [if_neg c2] at H
      have c2b0 : decide (x3_1 < (l0.length : Int)) = false := decide_eq_false c2
      clear c2
      obtain rfl := Option.some.inj H
      go_wp2
      go_ret
      exact ⟨by first | rfl | (simp <;> rfl) | (simp [*] <;> rfl), bq HB⟩

end Go.Proofs.Ytbihinhckmfplaa.Print
