/- Go functions as plain Lean functions, and that the Go code answers just as these, wherever they answer. Conditions: those of each theorem. Written by a program of this session (wip/patch.py). -/
import Derived.Test.YtbihinhckmfplaaPrint0
import Derived.Test.YtbihinhckmfplaaPrintLawsEqTask
namespace Go.Proofs.Ytbihinhckmfplaa.Print
open Go.RowKit Go.Proofs.Ytbihinhckmfplaa.Base Go.Proofs.YtbihinhckmfplaaW.PrintWords Go.Proofs.YtbihinhckmfplaaW.PrintLast Go.Proofs.YtbihinhckmfplaaW.PrintMore
attribute [local go_sem] max2_int min2_int max_two min_two max_three min_three max_four min_four   -- for this text's walks alone
set_option linter.unusedVariables false
set_option linter.unusedSimpArgs false

/-! ### laws_eqTaskS: function 10 -/
def laws_eqTaskS.l0 : Nat → List (S30) → List (S30) → Int → Option (Bool)
  | 0, _, _, _ => none
  | k + 1, x0, x1, x5 => if x5 < (x0.length : Int) then (if 0 ≤ x5 then (if x5 < (x1.length : Int) then ((laws_eqTask.f ((rd_T30 x0 x5).f0) ((rd_T30 x0 x5).f1) ((rd_T30 x0 x5).f2) ((rd_T30 x0 x5).f3) ((rd_T30 x0 x5).f4) ((rd_T30 x0 x5).f5) ((rd_T30 x0 x5).f6) ((rd_T30 x0 x5).f7) ((rd_T30 x0 x5).f8) ((rd_T30 x0 x5).f9) ((rd_T30 x0 x5).f10) ((rd_T30 x0 x5).f11) ((rd_T30 x0 x5).f12) ((rd_T30 x0 x5).f13) ((rd_T30 x1 x5).f0) ((rd_T30 x1 x5).f1) ((rd_T30 x1 x5).f2) ((rd_T30 x1 x5).f3) ((rd_T30 x1 x5).f4) ((rd_T30 x1 x5).f5) ((rd_T30 x1 x5).f6) ((rd_T30 x1 x5).f7) ((rd_T30 x1 x5).f8) ((rd_T30 x1 x5).f9) ((rd_T30 x1 x5).f10) ((rd_T30 x1 x5).f11) ((rd_T30 x1 x5).f12) ((rd_T30 x1 x5).f13)).bind fun t103 => (if t103 = true then (laws_eqTaskS.l0 k x0 x1 (wrap64 (x5 + 1))) else (some false))) else (none)) else (none)) else (some true)
def laws_eqTaskS.f (k : Nat) (l0 : List (S30)) (l1 : List (S30)) : Option (Bool) := if (l0.length : Int) = (l1.length : Int) then (laws_eqTaskS.l0 k l0 l1 0) else (some false)
theorem laws_eqTaskS.mono_l : ∀ k, (∀ y0 y1 y2, LeO (laws_eqTaskS.l0 k y0 y1 y2) (laws_eqTaskS.l0 (k + 1) y0 y1 y2))
  | 0 => fun _ _ _ r h => by simp [laws_eqTaskS.l0] at h
  | k + 1 => by
    have ih0 := laws_eqTaskS.mono_l k
    intro y0 y1 y2
    unfold laws_eqTaskS.l0
    repeat' first
    | (with_reducible exact ih0 _ _ _)
    | (with_reducible exact LeO.refl _)
    | (with_reducible exact LeO.none _)
    | (with_reducible refine LeO.ite ?_ ?_)
    | (with_reducible refine LeO.bind ?_ (fun _ => ?_))
    | exact ih0 _ _ _
    | exact LeO.none _
    | refine LeO.ite ?_ ?_
    | refine LeO.bind ?_ (fun _ => ?_)
theorem laws_eqTaskS.mono : ∀ a0 a1 k, LeO (laws_eqTaskS.f k a0 a1) (laws_eqTaskS.f (k + 1) a0 a1) := by
  intro a0 a1 k
  have ih0 := laws_eqTaskS.mono_l k
  unfold laws_eqTaskS.f
  repeat' first
      | (with_reducible exact ih0 _ _ _)
      | (with_reducible exact LeO.refl _)
      | (with_reducible exact LeO.none _)
      | (with_reducible refine LeO.ite ?_ ?_)
      | (with_reducible refine LeO.bind ?_ (fun _ => ?_))
      | exact ih0 _ _ _
      | exact LeO.none _
      | refine LeO.ite ?_ ?_
      | refine LeO.bind ?_ (fun _ => ?_)
def laws_eqTaskS.T6 : Bool × List (List Nat × List Nat) := (true, [([], []), ([], []), ([0, 1], [0, 1]), ([2], [2]), ([], []), ([], []), ([4, 5], [4, 5]), ([6], [6]), ([3, 7], [3, 7]), ([8], [8])])
def laws_eqTaskS.B6 : List Nat := [0, 0, 3, 7, 0, 0, 48, 112, 255, 511]
theorem laws_eqTaskS.tab6 : rtab .any (opsOf Try.f10 6) = laws_eqTaskS.T6 := by kernel_rfl
theorem laws_eqTaskS.bits6 : waitsOk laws_eqTaskS.T6.2 laws_eqTaskS.B6 = true := by kernel_rfl
set_option maxHeartbeats 8000000 in
set_option maxRecDepth 100000 in
theorem laws_eqTaskS.calls (k : Nat) (A0 : Option Addr) (c0 : Nat) (l0 : List (S30)) (A1 : Option Addr) (c1 : Nat) (l1 : List (S30)) (r : Bool) (w : World) (hr0 : Kd.C k30 w A0 l0.length l0) (hc0 : l0.length ≤ c0) (hr1 : Kd.C k30 w A1 l1.length l1) (hc1 : l1.length ≤ c1) (h : laws_eqTaskS.f k l0 l1 = some r) :
    Calls Try.prog 10 #[.slice A0 l0.length c0, .slice A1 l1.length c1] w fun e w' => e = .returned (.bool r) ∧ Below w.heap.size w w' := by
  have hu30 := Try.underlying30
  have HR0 := Aside0.mk hr0
  have HC0 := Aside0.mk hc0
  clear hr0 hc0
  have HR1 := Aside0.mk hr1
  have HC1 := Aside0.mk hc1
  clear hr1 hc1
  have HB := aM (Below.refl w.heap.size w)
  have H : (if (l0.length : Int) = (l1.length : Int) then (laws_eqTaskS.l0 k l0 l1 0) else (some false)) = some r := h
  clear h
  by_cases c3 : (l0.length : Int) = (l1.length : Int)
  · rw [if_pos c3] at H
    have c3b0 : ((l0.length : Int) == (l1.length : Int)) = true := beq_iff_eq.mpr c3
    have c3b1 : ((l0.length : Int) != (l1.length : Int)) = false := bne_eq_false_iff_eq.mpr c3
    have c3b2 : (l0.length == l1.length) = true := by first | simpa using c3 | (simp at c3 ⊢; omega)
    clear c3
    have H' := Aside0.mk H
    clear H
    go_enter Try.func10, Try.ntmps10
    go_wp2
    go_loopg [5] k (fun kq v5 w' => ∃ (x5_1 : Int), v5 = .int .i64 x5_1 ∧ Aside0 (laws_eqTaskS.l0 kq l0 l1 x5_1 = some r) ∧ Aside0 (kq ≤ k) ∧ Aside0 (Below w.heap.size w w'))
    case atStart => exact ⟨(0), (by first | rfl | (simp; done) | (simp [*]; done)), H', ⟨Nat.le_refl _⟩, ⟨bq HB⟩⟩
    case round =>
      clear H'
      try clear c1
      try clear p2
      try clear c3
      try clear c3b0
      try clear c3b1
      try clear c3b2
      obtain ⟨x5_1, rfl, HA, HK1, HB⟩ := hrel
      cases gk with
      | zero => exact absurd HA.out (by simp [laws_eqTaskS.l0])
      | succ k1 =>
        have H := HA.out
        clear HA
        simp only [laws_eqTaskS.l0] at H
        by_cases c4 : x5_1 < (l0.length : Int)
        · rw [if_pos c4] at H
          have c4b0 : decide (x5_1 < (l0.length : Int)) = true := decide_eq_true c4
          clear c4
          by_cases c5 : 0 ≤ x5_1
          · rw [if_pos c5] at H
            have c5b0 : decide (0 ≤ x5_1) = true := decide_eq_true c5
            clear c5
            by_cases c6 : x5_1 < (l1.length : Int)
            · rw [if_pos c6] at H
              have c6b0 : decide (x5_1 < (l1.length : Int)) = true := decide_eq_true c6
              clear c6
              replace H := Option.bind_eq_some_iff.mp H
              obtain ⟨t103, A70, H⟩ := H
              replace H : (if t103 = true then (laws_eqTaskS.l0 k1 l0 l1 (wrap64 (x5_1 + 1))) else (some false)) = some r := H
              have A7 := Aside0.mk A70
              clear A70
              by_cases c8 : t103 = true
              · subst c8
                have H1 : (laws_eqTaskS.l0 k1 l0 l1 (wrap64 (x5_1 + 1))) = some r := by rw [if_pos rfl] at H; exact H
                clear H
                have H := H1
                clear H1
                have H' := Aside0.mk H
                clear H
                try go_wp2
                have n0_ := aM (below_drew1 HB.out)
                clear HB
                have HB := n0_
                clear n0_
                have p101 : 0 ≤ (x5_1 : Int) := of_decide_eq_true (by first | (with_reducible assumption) | assumption)
                have q101 : x5_1 < (l0.length : Int) := of_decide_eq_true (by first | (with_reducible assumption) | assumption)
                obtain ⟨ad101, e101, hx101_0, hx101_1, hx101_2, hx101_3, hx101_4, hx101_5, hx101_6, hx101_7, hx101_8, hx101_9, hx101_10, hx101_11, hx101_12, hx101_13⟩ := at_T30 HR0.out x5_1 p101 q101
                have hw101_13 := hx101_13
                have hw101_12 := hx101_12
                have hw101_11 := hx101_11
                have hw101_10 := hx101_10
                have hw101_9 := hx101_9
                have hw101_8 := hx101_8
                have hw101_7 := hx101_7
                have hw101_6 := hx101_6
                have hw101_5 := hx101_5
                have hw101_4 := hx101_4
                have hw101_3 := hx101_3
                have hw101_2 := hx101_2
                have hw101_1 := hx101_1
                have hw101_0 := hx101_0
                cases e101
                have hmv_ := mv14 HB.out hx101_0 hx101_1 hx101_2 hx101_3 hx101_4 hx101_5 hx101_6 hx101_7 hx101_8 hx101_9 hx101_10 hx101_11 hx101_12 hx101_13
                clear hx101_0 hx101_1 hx101_2 hx101_3 hx101_4 hx101_5 hx101_6 hx101_7 hx101_8 hx101_9 hx101_10 hx101_11 hx101_12 hx101_13
                obtain ⟨hx101_0, hx101_1, hx101_2, hx101_3, hx101_4, hx101_5, hx101_6, hx101_7, hx101_8, hx101_9, hx101_10, hx101_11, hx101_12, hx101_13⟩ := hmv_
                replace p101 := eq_true p101
                replace q101 := eq_true q101
                have p102 : 0 ≤ (x5_1 : Int) := of_decide_eq_true (by first | (with_reducible assumption) | assumption)
                have q102 : x5_1 < (l1.length : Int) := of_decide_eq_true (by first | (with_reducible assumption) | assumption)
                obtain ⟨ad102, e102, hx102_0, hx102_1, hx102_2, hx102_3, hx102_4, hx102_5, hx102_6, hx102_7, hx102_8, hx102_9, hx102_10, hx102_11, hx102_12, hx102_13⟩ := at_T30 HR1.out x5_1 p102 q102
                have hw102_13 := hx102_13
                have hw102_12 := hx102_12
                have hw102_11 := hx102_11
                have hw102_10 := hx102_10
                have hw102_9 := hx102_9
                have hw102_8 := hx102_8
                have hw102_7 := hx102_7
                have hw102_6 := hx102_6
                have hw102_5 := hx102_5
                have hw102_4 := hx102_4
                have hw102_3 := hx102_3
                have hw102_2 := hx102_2
                have hw102_1 := hx102_1
                have hw102_0 := hx102_0
                cases e102
                have hmv_ := mv14 HB.out hx102_0 hx102_1 hx102_2 hx102_3 hx102_4 hx102_5 hx102_6 hx102_7 hx102_8 hx102_9 hx102_10 hx102_11 hx102_12 hx102_13
                clear hx102_0 hx102_1 hx102_2 hx102_3 hx102_4 hx102_5 hx102_6 hx102_7 hx102_8 hx102_9 hx102_10 hx102_11 hx102_12 hx102_13
                obtain ⟨hx102_0, hx102_1, hx102_2, hx102_3, hx102_4, hx102_5, hx102_6, hx102_7, hx102_8, hx102_9, hx102_10, hx102_11, hx102_12, hx102_13⟩ := hmv_
                replace p102 := eq_true p102
                replace q102 := eq_true q102
                refine start_ (n := 10) (S := fun w' => ca14t w' (ad101.add ((x5_1).toNat * 14)) (.int .i64 ((rd_T30 l0 x5_1).f0)) (.int .i64 ((rd_T30 l0 x5_1).f1)) (.int .i64 ((rd_T30 l0 x5_1).f2)) (.int .i64 ((rd_T30 l0 x5_1).f3)) (.bool ((rd_T30 l0 x5_1).f4)) (.int .i64 ((rd_T30 l0 x5_1).f5)) (.int .i64 ((rd_T30 l0 x5_1).f6)) (.int .i64 ((rd_T30 l0 x5_1).f7)) (.int .i64 ((rd_T30 l0 x5_1).f8)) (.int .i64 ((rd_T30 l0 x5_1).f9)) (.int .i64 ((rd_T30 l0 x5_1).f10)) (.int .i64 ((rd_T30 l0 x5_1).f11)) (.int .i64 ((rd_T30 l0 x5_1).f12)) (.int .i64 ((rd_T30 l0 x5_1).f13)) (ca14 w' (ad102.add ((x5_1).toNat * 14)) (.int .i64 ((rd_T30 l1 x5_1).f0)) (.int .i64 ((rd_T30 l1 x5_1).f1)) (.int .i64 ((rd_T30 l1 x5_1).f2)) (.int .i64 ((rd_T30 l1 x5_1).f3)) (.bool ((rd_T30 l1 x5_1).f4)) (.int .i64 ((rd_T30 l1 x5_1).f5)) (.int .i64 ((rd_T30 l1 x5_1).f6)) (.int .i64 ((rd_T30 l1 x5_1).f7)) (.int .i64 ((rd_T30 l1 x5_1).f8)) (.int .i64 ((rd_T30 l1 x5_1).f9)) (.int .i64 ((rd_T30 l1 x5_1).f10)) (.int .i64 ((rd_T30 l1 x5_1).f11)) (.int .i64 ((rd_T30 l1 x5_1).f12)) (.int .i64 ((rd_T30 l1 x5_1).f13)))) (ds := []) #[nn,nn,nn,nn,nn,nn,nn,nn,nn,nn] (by kernel_rfl) rfl rfl ⟨((HB.out.cell (World.block_lt_of_cell? w _ hw101_0)).trans hw101_0), ((HB.out.cell (World.block_lt_of_cell? w _ hw101_1)).trans hw101_1), ((HB.out.cell (World.block_lt_of_cell? w _ hw101_2)).trans hw101_2), ((HB.out.cell (World.block_lt_of_cell? w _ hw101_3)).trans hw101_3), ((HB.out.cell (World.block_lt_of_cell? w _ hw101_4)).trans hw101_4), ((HB.out.cell (World.block_lt_of_cell? w _ hw101_5)).trans hw101_5), ((HB.out.cell (World.block_lt_of_cell? w _ hw101_6)).trans hw101_6), ((HB.out.cell (World.block_lt_of_cell? w _ hw101_7)).trans hw101_7), ((HB.out.cell (World.block_lt_of_cell? w _ hw101_8)).trans hw101_8), ((HB.out.cell (World.block_lt_of_cell? w _ hw101_9)).trans hw101_9), ((HB.out.cell (World.block_lt_of_cell? w _ hw101_10)).trans hw101_10), ((HB.out.cell (World.block_lt_of_cell? w _ hw101_11)).trans hw101_11), ((HB.out.cell (World.block_lt_of_cell? w _ hw101_12)).trans hw101_12), ((HB.out.cell (World.block_lt_of_cell? w _ hw101_13)).trans hw101_13), ((HB.out.cell (World.block_lt_of_cell? w _ hw102_0)).trans hw102_0), ((HB.out.cell (World.block_lt_of_cell? w _ hw102_1)).trans hw102_1), ((HB.out.cell (World.block_lt_of_cell? w _ hw102_2)).trans hw102_2), ((HB.out.cell (World.block_lt_of_cell? w _ hw102_3)).trans hw102_3), ((HB.out.cell (World.block_lt_of_cell? w _ hw102_4)).trans hw102_4), ((HB.out.cell (World.block_lt_of_cell? w _ hw102_5)).trans hw102_5), ((HB.out.cell (World.block_lt_of_cell? w _ hw102_6)).trans hw102_6), ((HB.out.cell (World.block_lt_of_cell? w _ hw102_7)).trans hw102_7), ((HB.out.cell (World.block_lt_of_cell? w _ hw102_8)).trans hw102_8), ((HB.out.cell (World.block_lt_of_cell? w _ hw102_9)).trans hw102_9), ((HB.out.cell (World.block_lt_of_cell? w _ hw102_10)).trans hw102_10), ((HB.out.cell (World.block_lt_of_cell? w _ hw102_11)).trans hw102_11), ((HB.out.cell (World.block_lt_of_cell? w _ hw102_12)).trans hw102_12), ((HB.out.cell (World.block_lt_of_cell? w _ hw102_13)).trans hw102_13)⟩ (fun hHeld => ?_); refine with_tabW laws_eqTaskS.tab6 laws_eqTaskS.bits6 (fun HT_ HW_ => ?_)
                generalize wr.drew = w9 at HB hx101_0 hx101_1 hx101_10 hx101_11 hx101_12 hx101_13 hx101_2 hx101_3 hx101_4 hx101_5 hx101_6 hx101_7 hx101_8 hx101_9 hx102_0 hx102_1 hx102_10 hx102_11 hx102_12 hx102_13 hx102_2 hx102_3 hx102_4 hx102_5 hx102_6 hx102_7 hx102_8 hx102_9 hHeld ⊢
                refine pQ (i := 0) (N := some 17) #[yy,nn,nn,nn,nn,nn,nn,nn,nn,nn] (any_of HT_.out (by kernel_rfl)) ?_
                refine pQ (i := 1) (N := some 18) #[yy,yy,nn,nn,nn,nn,nn,nn,nn,nn] (any_of HT_.out (by kernel_rfl)) ?_
                refine pQ (i := 2) (N := some 19) #[yy,yy,yy,nn,nn,nn,nn,nn,nn,nn] (any_of HT_.out (by kernel_rfl)) ?_
                refine pQ (i := 4) (N := some 21) #[yy,yy,yy,nn,yy,nn,nn,nn,nn,nn] (any_of HT_.out (by kernel_rfl)) ?_
                refine pQ (i := 5) (N := some 22) #[yy,yy,yy,nn,yy,yy,nn,nn,nn,nn] (any_of HT_.out (by kernel_rfl)) ?_
                refine pQ (i := 6) (N := some 23) #[yy,yy,yy,nn,yy,yy,yy,nn,nn,nn] (any_of HT_.out (by kernel_rfl)) ?_
                refine tQ (i := 3) (N := some 20) #[yy,yy,yy,yy,yy,yy,yy,nn,nn,nn] (take_ofW HT_.out HW_.out (by kernel_rfl)) hHeld ?_
                refine tQ (i := 7) (N := some 24) #[yy,yy,yy,yy,yy,yy,yy,yy,nn,nn] (take_ofW HT_.out HW_.out (by kernel_rfl)) hHeld ?_
                refine one_ (i := 8) (N := some 25) #[yy,yy,yy,yy,yy,yy,yy,yy,yy,nn] rfl rfl (one_of HT_.out (by kernel_rfl)) (by decide) (fun K hK => ?_)
                refine goes_ Try.func22 (by kernel_rfl) rfl #[.agg #[.int .i64 ((rd_T30 l0 x5_1).f0), .int .i64 ((rd_T30 l0 x5_1).f1), .int .i64 ((rd_T30 l0 x5_1).f2), .int .i64 ((rd_T30 l0 x5_1).f3), .bool ((rd_T30 l0 x5_1).f4), .int .i64 ((rd_T30 l0 x5_1).f5), .int .i64 ((rd_T30 l0 x5_1).f6), .int .i64 ((rd_T30 l0 x5_1).f7), .int .i64 ((rd_T30 l0 x5_1).f8), .int .i64 ((rd_T30 l0 x5_1).f9), .int .i64 ((rd_T30 l0 x5_1).f10), .int .i64 ((rd_T30 l0 x5_1).f11), .int .i64 ((rd_T30 l0 x5_1).f12), .int .i64 ((rd_T30 l0 x5_1).f13)], .agg #[.int .i64 ((rd_T30 l1 x5_1).f0), .int .i64 ((rd_T30 l1 x5_1).f1), .int .i64 ((rd_T30 l1 x5_1).f2), .int .i64 ((rd_T30 l1 x5_1).f3), .bool ((rd_T30 l1 x5_1).f4), .int .i64 ((rd_T30 l1 x5_1).f5), .int .i64 ((rd_T30 l1 x5_1).f6), .int .i64 ((rd_T30 l1 x5_1).f7), .int .i64 ((rd_T30 l1 x5_1).f8), .int .i64 ((rd_T30 l1 x5_1).f9), .int .i64 ((rd_T30 l1 x5_1).f10), .int .i64 ((rd_T30 l1 x5_1).f11), .int .i64 ((rd_T30 l1 x5_1).f12), .int .i64 ((rd_T30 l1 x5_1).f13)]] (by rfl) rfl rfl (by (try simp only [List.map_toArray, List.map_cons, List.map_nil]); first | done | rfl | (simp only [List.length_drop, List.length_take]; rfl)) ?_
                with_reducible refine (laws_eqTask.calls ((rd_T30 l0 x5_1).f0) ((rd_T30 l0 x5_1).f1) ((rd_T30 l0 x5_1).f2) ((rd_T30 l0 x5_1).f3) ((rd_T30 l0 x5_1).f4) ((rd_T30 l0 x5_1).f5) ((rd_T30 l0 x5_1).f6) ((rd_T30 l0 x5_1).f7) ((rd_T30 l0 x5_1).f8) ((rd_T30 l0 x5_1).f9) ((rd_T30 l0 x5_1).f10) ((rd_T30 l0 x5_1).f11) ((rd_T30 l0 x5_1).f12) ((rd_T30 l0 x5_1).f13) ((rd_T30 l1 x5_1).f0) ((rd_T30 l1 x5_1).f1) ((rd_T30 l1 x5_1).f2) ((rd_T30 l1 x5_1).f3) ((rd_T30 l1 x5_1).f4) ((rd_T30 l1 x5_1).f5) ((rd_T30 l1 x5_1).f6) ((rd_T30 l1 x5_1).f7) ((rd_T30 l1 x5_1).f8) ((rd_T30 l1 x5_1).f9) ((rd_T30 l1 x5_1).f10) ((rd_T30 l1 x5_1).f11) ((rd_T30 l1 x5_1).f12) ((rd_T30 l1 x5_1).f13) true _ A7.out).mono ?_
                rintro e w10 ⟨rfl, hb⟩
                refine ⟨_, rfl, ?_⟩
                have n0_ := aM (below_step (bq HB) hb)
                clear HB
                have HB := n0_
                clear n0_
                (try clear hb)
                (try clear hb2)
                (try clear hk)
                (try clear hi)
                refine hK.out _ _ (mvt14 HB.out hw101_0 hw101_1 hw101_2 hw101_3 hw101_4 hw101_5 hw101_6 hw101_7 hw101_8 hw101_9 hw101_10 hw101_11 hw101_12 hw101_13 (mv14 HB.out hw102_0 hw102_1 hw102_2 hw102_3 hw102_4 hw102_5 hw102_6 hw102_7 hw102_8 hw102_9 hw102_10 hw102_11 hw102_12 hw102_13) :) (fun hHeld => ?_)
                clear hK K
                refine nQ (N := some 25) ?_
                refine pQ (i := 9) (N := some 26) #[yy,yy,yy,yy,yy,yy,yy,yy,yy,yy] (any_of HT_.out (by kernel_rfl)) ?_
                refine done_ (done_of HT_.out (by kernel_rfl)) ?_
                try go_wp2
                go_roundg k1
                case measure => have := HK1.out; omega
                case rel => exact ⟨(wrap64 (x5_1 + 1)), (by first | rfl | (simp; done) | (simp [*]; done)), H', ⟨by have := HK1.out; omega⟩, ⟨bq HB⟩⟩
              replace c8 := Bool.eq_false_iff.mpr c8
              subst c8
              have H1 : (some false) = some r := by rw [if_neg (show ¬ (false = true) by decide)] at H; exact H
              clear H
              have H := H1
              clear H1
              obtain rfl := Option.some.inj H
              try go_wp2
              have n0_ := aM (below_drew1 HB.out)
              clear HB
              have HB := n0_
              clear n0_
              have p101 : 0 ≤ (x5_1 : Int) := of_decide_eq_true (by first | (with_reducible assumption) | assumption)
              have q101 : x5_1 < (l0.length : Int) := of_decide_eq_true (by first | (with_reducible assumption) | assumption)
              obtain ⟨ad101, e101, hx101_0, hx101_1, hx101_2, hx101_3, hx101_4, hx101_5, hx101_6, hx101_7, hx101_8, hx101_9, hx101_10, hx101_11, hx101_12, hx101_13⟩ := at_T30 HR0.out x5_1 p101 q101
              have hw101_13 := hx101_13
              have hw101_12 := hx101_12
              have hw101_11 := hx101_11
              have hw101_10 := hx101_10
              have hw101_9 := hx101_9
              have hw101_8 := hx101_8
              have hw101_7 := hx101_7
              have hw101_6 := hx101_6
              have hw101_5 := hx101_5
              have hw101_4 := hx101_4
              have hw101_3 := hx101_3
              have hw101_2 := hx101_2
              have hw101_1 := hx101_1
              have hw101_0 := hx101_0
              cases e101
              have hmv_ := mv14 HB.out hx101_0 hx101_1 hx101_2 hx101_3 hx101_4 hx101_5 hx101_6 hx101_7 hx101_8 hx101_9 hx101_10 hx101_11 hx101_12 hx101_13
              clear hx101_0 hx101_1 hx101_2 hx101_3 hx101_4 hx101_5 hx101_6 hx101_7 hx101_8 hx101_9 hx101_10 hx101_11 hx101_12 hx101_13
              obtain ⟨hx101_0, hx101_1, hx101_2, hx101_3, hx101_4, hx101_5, hx101_6, hx101_7, hx101_8, hx101_9, hx101_10, hx101_11, hx101_12, hx101_13⟩ := hmv_
              replace p101 := eq_true p101
              replace q101 := eq_true q101
              have p102 : 0 ≤ (x5_1 : Int) := of_decide_eq_true (by first | (with_reducible assumption) | assumption)
              have q102 : x5_1 < (l1.length : Int) := of_decide_eq_true (by first | (with_reducible assumption) | assumption)
              obtain ⟨ad102, e102, hx102_0, hx102_1, hx102_2, hx102_3, hx102_4, hx102_5, hx102_6, hx102_7, hx102_8, hx102_9, hx102_10, hx102_11, hx102_12, hx102_13⟩ := at_T30 HR1.out x5_1 p102 q102
              have hw102_13 := hx102_13
              have hw102_12 := hx102_12
              have hw102_11 := hx102_11
              have hw102_10 := hx102_10
              have hw102_9 := hx102_9
              have hw102_8 := hx102_8
              have hw102_7 := hx102_7
              have hw102_6 := hx102_6
              have hw102_5 := hx102_5
              have hw102_4 := hx102_4
              have hw102_3 := hx102_3
              have hw102_2 := hx102_2
              have hw102_1 := hx102_1
              have hw102_0 := hx102_0
              cases e102
              have hmv_ := mv14 HB.out hx102_0 hx102_1 hx102_2 hx102_3 hx102_4 hx102_5 hx102_6 hx102_7 hx102_8 hx102_9 hx102_10 hx102_11 hx102_12 hx102_13
              clear hx102_0 hx102_1 hx102_2 hx102_3 hx102_4 hx102_5 hx102_6 hx102_7 hx102_8 hx102_9 hx102_10 hx102_11 hx102_12 hx102_13
              obtain ⟨hx102_0, hx102_1, hx102_2, hx102_3, hx102_4, hx102_5, hx102_6, hx102_7, hx102_8, hx102_9, hx102_10, hx102_11, hx102_12, hx102_13⟩ := hmv_
              replace p102 := eq_true p102
              replace q102 := eq_true q102
              refine start_ (n := 10) (S := fun w' => ca14t w' (ad101.add ((x5_1).toNat * 14)) (.int .i64 ((rd_T30 l0 x5_1).f0)) (.int .i64 ((rd_T30 l0 x5_1).f1)) (.int .i64 ((rd_T30 l0 x5_1).f2)) (.int .i64 ((rd_T30 l0 x5_1).f3)) (.bool ((rd_T30 l0 x5_1).f4)) (.int .i64 ((rd_T30 l0 x5_1).f5)) (.int .i64 ((rd_T30 l0 x5_1).f6)) (.int .i64 ((rd_T30 l0 x5_1).f7)) (.int .i64 ((rd_T30 l0 x5_1).f8)) (.int .i64 ((rd_T30 l0 x5_1).f9)) (.int .i64 ((rd_T30 l0 x5_1).f10)) (.int .i64 ((rd_T30 l0 x5_1).f11)) (.int .i64 ((rd_T30 l0 x5_1).f12)) (.int .i64 ((rd_T30 l0 x5_1).f13)) (ca14 w' (ad102.add ((x5_1).toNat * 14)) (.int .i64 ((rd_T30 l1 x5_1).f0)) (.int .i64 ((rd_T30 l1 x5_1).f1)) (.int .i64 ((rd_T30 l1 x5_1).f2)) (.int .i64 ((rd_T30 l1 x5_1).f3)) (.bool ((rd_T30 l1 x5_1).f4)) (.int .i64 ((rd_T30 l1 x5_1).f5)) (.int .i64 ((rd_T30 l1 x5_1).f6)) (.int .i64 ((rd_T30 l1 x5_1).f7)) (.int .i64 ((rd_T30 l1 x5_1).f8)) (.int .i64 ((rd_T30 l1 x5_1).f9)) (.int .i64 ((rd_T30 l1 x5_1).f10)) (.int .i64 ((rd_T30 l1 x5_1).f11)) (.int .i64 ((rd_T30 l1 x5_1).f12)) (.int .i64 ((rd_T30 l1 x5_1).f13)))) (ds := []) #[nn,nn,nn,nn,nn,nn,nn,nn,nn,nn] (by kernel_rfl) rfl rfl ⟨((HB.out.cell (World.block_lt_of_cell? w _ hw101_0)).trans hw101_0), ((HB.out.cell (World.block_lt_of_cell? w _ hw101_1)).trans hw101_1), ((HB.out.cell (World.block_lt_of_cell? w _ hw101_2)).trans hw101_2), ((HB.out.cell (World.block_lt_of_cell? w _ hw101_3)).trans hw101_3), ((HB.out.cell (World.block_lt_of_cell? w _ hw101_4)).trans hw101_4), ((HB.out.cell (World.block_lt_of_cell? w _ hw101_5)).trans hw101_5), ((HB.out.cell (World.block_lt_of_cell? w _ hw101_6)).trans hw101_6), ((HB.out.cell (World.block_lt_of_cell? w _ hw101_7)).trans hw101_7), ((HB.out.cell (World.block_lt_of_cell? w _ hw101_8)).trans hw101_8), ((HB.out.cell (World.block_lt_of_cell? w _ hw101_9)).trans hw101_9), ((HB.out.cell (World.block_lt_of_cell? w _ hw101_10)).trans hw101_10), ((HB.out.cell (World.block_lt_of_cell? w _ hw101_11)).trans hw101_11), ((HB.out.cell (World.block_lt_of_cell? w _ hw101_12)).trans hw101_12), ((HB.out.cell (World.block_lt_of_cell? w _ hw101_13)).trans hw101_13), ((HB.out.cell (World.block_lt_of_cell? w _ hw102_0)).trans hw102_0), ((HB.out.cell (World.block_lt_of_cell? w _ hw102_1)).trans hw102_1), ((HB.out.cell (World.block_lt_of_cell? w _ hw102_2)).trans hw102_2), ((HB.out.cell (World.block_lt_of_cell? w _ hw102_3)).trans hw102_3), ((HB.out.cell (World.block_lt_of_cell? w _ hw102_4)).trans hw102_4), ((HB.out.cell (World.block_lt_of_cell? w _ hw102_5)).trans hw102_5), ((HB.out.cell (World.block_lt_of_cell? w _ hw102_6)).trans hw102_6), ((HB.out.cell (World.block_lt_of_cell? w _ hw102_7)).trans hw102_7), ((HB.out.cell (World.block_lt_of_cell? w _ hw102_8)).trans hw102_8), ((HB.out.cell (World.block_lt_of_cell? w _ hw102_9)).trans hw102_9), ((HB.out.cell (World.block_lt_of_cell? w _ hw102_10)).trans hw102_10), ((HB.out.cell (World.block_lt_of_cell? w _ hw102_11)).trans hw102_11), ((HB.out.cell (World.block_lt_of_cell? w _ hw102_12)).trans hw102_12), ((HB.out.cell (World.block_lt_of_cell? w _ hw102_13)).trans hw102_13)⟩ (fun hHeld => ?_); refine with_tabW laws_eqTaskS.tab6 laws_eqTaskS.bits6 (fun HT_ HW_ => ?_)
              generalize wr.drew = w11 at HB hx101_0 hx101_1 hx101_10 hx101_11 hx101_12 hx101_13 hx101_2 hx101_3 hx101_4 hx101_5 hx101_6 hx101_7 hx101_8 hx101_9 hx102_0 hx102_1 hx102_10 hx102_11 hx102_12 hx102_13 hx102_2 hx102_3 hx102_4 hx102_5 hx102_6 hx102_7 hx102_8 hx102_9 hHeld ⊢
              refine pQ (i := 0) (N := some 17) #[yy,nn,nn,nn,nn,nn,nn,nn,nn,nn] (any_of HT_.out (by kernel_rfl)) ?_
              refine pQ (i := 1) (N := some 18) #[yy,yy,nn,nn,nn,nn,nn,nn,nn,nn] (any_of HT_.out (by kernel_rfl)) ?_
              refine pQ (i := 2) (N := some 19) #[yy,yy,yy,nn,nn,nn,nn,nn,nn,nn] (any_of HT_.out (by kernel_rfl)) ?_
              refine pQ (i := 4) (N := some 21) #[yy,yy,yy,nn,yy,nn,nn,nn,nn,nn] (any_of HT_.out (by kernel_rfl)) ?_
              refine pQ (i := 5) (N := some 22) #[yy,yy,yy,nn,yy,yy,nn,nn,nn,nn] (any_of HT_.out (by kernel_rfl)) ?_
              refine pQ (i := 6) (N := some 23) #[yy,yy,yy,nn,yy,yy,yy,nn,nn,nn] (any_of HT_.out (by kernel_rfl)) ?_
              refine tQ (i := 3) (N := some 20) #[yy,yy,yy,yy,yy,yy,yy,nn,nn,nn] (take_ofW HT_.out HW_.out (by kernel_rfl)) hHeld ?_
              refine tQ (i := 7) (N := some 24) #[yy,yy,yy,yy,yy,yy,yy,yy,nn,nn] (take_ofW HT_.out HW_.out (by kernel_rfl)) hHeld ?_
              refine one_ (i := 8) (N := some 25) #[yy,yy,yy,yy,yy,yy,yy,yy,yy,nn] rfl rfl (one_of HT_.out (by kernel_rfl)) (by decide) (fun K hK => ?_)
              refine goes_ Try.func22 (by kernel_rfl) rfl #[.agg #[.int .i64 ((rd_T30 l0 x5_1).f0), .int .i64 ((rd_T30 l0 x5_1).f1), .int .i64 ((rd_T30 l0 x5_1).f2), .int .i64 ((rd_T30 l0 x5_1).f3), .bool ((rd_T30 l0 x5_1).f4), .int .i64 ((rd_T30 l0 x5_1).f5), .int .i64 ((rd_T30 l0 x5_1).f6), .int .i64 ((rd_T30 l0 x5_1).f7), .int .i64 ((rd_T30 l0 x5_1).f8), .int .i64 ((rd_T30 l0 x5_1).f9), .int .i64 ((rd_T30 l0 x5_1).f10), .int .i64 ((rd_T30 l0 x5_1).f11), .int .i64 ((rd_T30 l0 x5_1).f12), .int .i64 ((rd_T30 l0 x5_1).f13)], .agg #[.int .i64 ((rd_T30 l1 x5_1).f0), .int .i64 ((rd_T30 l1 x5_1).f1), .int .i64 ((rd_T30 l1 x5_1).f2), .int .i64 ((rd_T30 l1 x5_1).f3), .bool ((rd_T30 l1 x5_1).f4), .int .i64 ((rd_T30 l1 x5_1).f5), .int .i64 ((rd_T30 l1 x5_1).f6), .int .i64 ((rd_T30 l1 x5_1).f7), .int .i64 ((rd_T30 l1 x5_1).f8), .int .i64 ((rd_T30 l1 x5_1).f9), .int .i64 ((rd_T30 l1 x5_1).f10), .int .i64 ((rd_T30 l1 x5_1).f11), .int .i64 ((rd_T30 l1 x5_1).f12), .int .i64 ((rd_T30 l1 x5_1).f13)]] (by rfl) rfl rfl (by (try simp only [List.map_toArray, List.map_cons, List.map_nil]); first | done | rfl | (simp only [List.length_drop, List.length_take]; rfl)) ?_
              with_reducible refine (laws_eqTask.calls ((rd_T30 l0 x5_1).f0) ((rd_T30 l0 x5_1).f1) ((rd_T30 l0 x5_1).f2) ((rd_T30 l0 x5_1).f3) ((rd_T30 l0 x5_1).f4) ((rd_T30 l0 x5_1).f5) ((rd_T30 l0 x5_1).f6) ((rd_T30 l0 x5_1).f7) ((rd_T30 l0 x5_1).f8) ((rd_T30 l0 x5_1).f9) ((rd_T30 l0 x5_1).f10) ((rd_T30 l0 x5_1).f11) ((rd_T30 l0 x5_1).f12) ((rd_T30 l0 x5_1).f13) ((rd_T30 l1 x5_1).f0) ((rd_T30 l1 x5_1).f1) ((rd_T30 l1 x5_1).f2) ((rd_T30 l1 x5_1).f3) ((rd_T30 l1 x5_1).f4) ((rd_T30 l1 x5_1).f5) ((rd_T30 l1 x5_1).f6) ((rd_T30 l1 x5_1).f7) ((rd_T30 l1 x5_1).f8) ((rd_T30 l1 x5_1).f9) ((rd_T30 l1 x5_1).f10) ((rd_T30 l1 x5_1).f11) ((rd_T30 l1 x5_1).f12) ((rd_T30 l1 x5_1).f13) false _ A7.out).mono ?_
              rintro e w12 ⟨rfl, hb⟩
              refine ⟨_, rfl, ?_⟩
              have n0_ := aM (below_step (bq HB) hb)
              clear HB
              have HB := n0_
              clear n0_
              (try clear hb)
              (try clear hb2)
              (try clear hk)
              (try clear hi)
              refine hK.out _ _ (mvt14 HB.out hw101_0 hw101_1 hw101_2 hw101_3 hw101_4 hw101_5 hw101_6 hw101_7 hw101_8 hw101_9 hw101_10 hw101_11 hw101_12 hw101_13 (mv14 HB.out hw102_0 hw102_1 hw102_2 hw102_3 hw102_4 hw102_5 hw102_6 hw102_7 hw102_8 hw102_9 hw102_10 hw102_11 hw102_12 hw102_13) :) (fun hHeld => ?_)
              clear hK K
              refine nQ (N := some 25) ?_
              refine pQ (i := 9) (N := some 26) #[yy,yy,yy,yy,yy,yy,yy,yy,yy,yy] (any_of HT_.out (by kernel_rfl)) ?_
              refine done_ (done_of HT_.out (by kernel_rfl)) ?_
              try go_wp2
              all_goals go_ret
              all_goals exact ⟨by first | rfl | (simp <;> rfl) | (simp [*] <;> rfl), bq HB⟩
            rw [if_neg c6] at H
            exact absurd H (by simp)
          rw [if_neg c5] at H
          exact absurd H (by simp)
        rw [if_neg c4] at H
        have c4b0 : decide (x5_1 < (l0.length : Int)) = false := decide_eq_false c4
        clear c4
        obtain rfl := Option.some.inj H
        go_wp2
        all_goals go_ret
        all_goals exact ⟨by first | rfl | (simp <;> rfl) | (simp [*] <;> rfl), bq HB⟩
  rw [if_neg c3] at H
  have c3b0 : ((l0.length : Int) == (l1.length : Int)) = false := beq_eq_false_iff_ne.mpr c3
  have c3b1 : ((l0.length : Int) != (l1.length : Int)) = true := bne_iff_ne.mpr c3
  have c3b2 : (l0.length == l1.length) = false := by first | simpa using c3 | (simp at c3 ⊢; omega)
  obtain rfl := Option.some.inj H
  go_enter Try.func10, Try.ntmps10
  go_wp2
  all_goals go_ret
  all_goals exact ⟨by first | rfl | (simp <;> rfl) | (simp [*] <;> rfl), bq HB⟩

end Go.Proofs.Ytbihinhckmfplaa.Print
