/- Go functions as plain Lean functions, and that the Go code answers just as these, wherever they answer. Conditions: those of each theorem. Written by a program of this session (wip/patch.py). -/
import Derived.Test.YtnokdjkkgcpbdabPrint0
import Derived.Test.YtnokdjkkgcpbdabPrint10
namespace Go.Proofs.Ytnokdjkkgcpbdab.Print
open Go.RowKit Go.Proofs.Ytnokdjkkgcpbdab.Base Go.Proofs.YtnokdjkkgcpbdabW.PrintWords Go.Proofs.YtnokdjkkgcpbdabW.PrintLast Go.Proofs.YtnokdjkkgcpbdabW.PrintMore
attribute [local go_sem] max2_int min2_int max_two min_two max_three min_three max_four min_four   -- for this text's walks alone
set_option linter.unusedVariables false
set_option linter.unusedSimpArgs false

/-! ### impl_TasksOk: function 33 -/
def impl_TasksOk.l0 : Nat → List (S24) → List (S24) → Int → Int → Option (Bool)
  | 0, _, _, _, _ => none
  | k + 1, x0, x5, x6, x7 => if x7 < x6 then (if 0 ≤ x7 then (if x7 < (x5.length : Int) then ((impl_TaskOk.f ((rd_T24 x5 x7).f0) ((rd_T24 x5 x7).f1) ((rd_T24 x5 x7).f2) ((rd_T24 x5 x7).f3) ((rd_T24 x5 x7).f4) ((rd_T24 x5 x7).f5) ((rd_T24 x5 x7).f6) ((rd_T24 x5 x7).f7) ((rd_T24 x5 x7).f8) ((rd_T24 x5 x7).f9) ((rd_T24 x5 x7).f10) ((rd_T24 x5 x7).f11) ((rd_T24 x5 x7).f12) ((rd_T24 x5 x7).f13)).bind fun t615 => (if t615 = true then (if x7 > 0 then (if 0 ≤ (wrap64 (x7 - 1)) then (if (wrap64 (x7 - 1)) < (x0.length : Int) then (if ((rd_T24 x0 (wrap64 (x7 - 1))).f0) ≥ ((rd_T24 x5 x7).f0) then (some false) else (impl_TasksOk.l0 k x0 x5 x6 (wrap64 (x7 + 1)))) else (none)) else (none)) else (impl_TasksOk.l0 k x0 x5 x6 (wrap64 (x7 + 1)))) else (some false))) else (none)) else (none)) else (some (decide ((x0.length : Int) ≤ 12)))
def impl_TasksOk.f (k : Nat) (l0 : List (S24)) : Option (Bool) := impl_TasksOk.l0 k l0 l0 (l0.length : Int) 0
theorem impl_TasksOk.mono_l : ∀ k, (∀ y0 y1 y2 y3, LeO (impl_TasksOk.l0 k y0 y1 y2 y3) (impl_TasksOk.l0 (k + 1) y0 y1 y2 y3))
  | 0 => fun _ _ _ _ r h => by simp [impl_TasksOk.l0] at h
  | k + 1 => by
    have ih0 := impl_TasksOk.mono_l k
    · intro y0 y1 y2 y3
      unfold impl_TasksOk.l0
      repeat' first
      | (with_reducible exact ih0 _ _ _ _)
      | (with_reducible exact LeO.refl _)
      | (with_reducible exact LeO.none _)
      | (with_reducible refine LeO.ite ?_ ?_)
      | (with_reducible refine LeO.bind ?_ (fun _ => ?_))
      | exact ih0 _ _ _ _
      | exact LeO.none _
      | refine LeO.ite ?_ ?_
      | refine LeO.bind ?_ (fun _ => ?_)
theorem impl_TasksOk.mono : ∀ a0 k, LeO (impl_TasksOk.f k a0) (impl_TasksOk.f (k + 1) a0) := by
  intro a0 k
  have ih0 := impl_TasksOk.mono_l k
  unfold impl_TasksOk.f
  repeat' first
      | (with_reducible exact ih0 _ _ _ _)
      | (with_reducible exact LeO.refl _)
      | (with_reducible exact LeO.none _)
      | (with_reducible refine LeO.ite ?_ ?_)
      | (with_reducible refine LeO.bind ?_ (fun _ => ?_))
      | exact ih0 _ _ _ _
      | exact LeO.none _
      | refine LeO.ite ?_ ?_
      | refine LeO.bind ?_ (fun _ => ?_)
def impl_TasksOk.T4 : Bool × List (List Nat × List Nat) := (true, [([], []), ([0], [0]), ([1], [1]), ([2, 1], [2]), ([3], [3]), ([4, 3], [3, 4]), ([5, 3, 3], [3, 5]), ([6], [6]), ([6], [6]), ([8, 6], [6, 8]), ([7, 9, 6], [6, 7, 9]), ([10, 6], [6, 10]), ([11, 6], [6, 11]), ([6], [6]), ([13, 6], [6, 13]), ([12, 14, 6], [6, 12, 14]), ([6, 15, 3], [3, 6, 15]), ([3, 16], [3, 16])])
def impl_TasksOk.B4 : List Nat := [0, 1, 3, 7, 15, 31, 63, 127, 127, 383, 1023, 2047, 4095, 127, 8319, 32767, 65535, 131071]
theorem impl_TasksOk.tab4 : rtab .any (opsOf Try.f33 4) = impl_TasksOk.T4 := by kernel_rfl
theorem impl_TasksOk.bits4 : waitsOk impl_TasksOk.T4.2 impl_TasksOk.B4 = true := by kernel_rfl
set_option maxHeartbeats 8000000 in
set_option maxRecDepth 100000 in
theorem impl_TasksOk.calls (k : Nat) (A0 : Option Addr) (c0 : Nat) (l0 : List (S24)) (r : Bool) (w : World) (hr0 : Kd.C k24 w A0 l0.length l0) (hc0 : l0.length ≤ c0) (h : impl_TasksOk.f k l0 = some r) :
    Calls Try.prog 33 #[.slice A0 l0.length c0] w fun e w' => e = .returned (.bool r) ∧ Below w.heap.size w w' := by
  have hu24 := Try.underlying24
  have HR0 := Aside0.mk hr0
  have HC0 := Aside0.mk hc0
  clear hr0 hc0
  have HB := Aside0.mk (Below.refl w.heap.size w)
  have H : (impl_TasksOk.l0 k l0 l0 (l0.length : Int) 0) = some r := h
  clear h
  have H' := Aside0.mk H
  clear H
  go_enter Try.func33, Try.ntmps33
  go_wp2
  go_loopg [7] k (fun kq v7 w' => ∃ (x7_1 : Int), v7 = .int .i64 x7_1 ∧ Aside0 (impl_TasksOk.l0 kq l0 l0 (l0.length : Int) x7_1 = some r) ∧ Aside0 (kq ≤ k) ∧ Aside0 (Below w.heap.size w w'))
  case atStart => exact ⟨(0), (by first | rfl | (simp; done) | (simp [*]; done)), H', ⟨Nat.le_refl _⟩, ⟨by repeat (first | (with_reducible first | exact HB.out | apply below_alloc | apply pw_below_drewN | apply below_drew1) | exact HB.out)⟩⟩
  case round =>
    clear H'
    obtain ⟨x7_1, rfl, HA, HK1, HB⟩ := hrel
    cases gk with
    | zero => exact absurd HA.out (by simp [impl_TasksOk.l0])
    | succ k1 =>
      have H := HA.out
      clear HA
      simp only [impl_TasksOk.l0] at H
      by_cases c2 : x7_1 < (l0.length : Int)
      · rw [if_pos c2] at H
        have c2b0 : decide (x7_1 < (l0.length : Int)) = true := decide_eq_true c2
        clear c2
        by_cases c3 : 0 ≤ x7_1
        · rw [if_pos c3] at H
          have c3b0 : decide (0 ≤ x7_1) = true := decide_eq_true c3
          clear c3
          by_cases c4 : x7_1 < (l0.length : Int)
          · rw [if_pos c4] at H
            have c4b0 : decide (x7_1 < (l0.length : Int)) = true := decide_eq_true c4
            clear c4
            replace H := Option.bind_eq_some_iff.mp H
            obtain ⟨t615, A50, H⟩ := H
            replace H : (if t615 = true then (if x7_1 > 0 then (if 0 ≤ (wrap64 (x7_1 - 1)) then (if (wrap64 (x7_1 - 1)) < (l0.length : Int) then (if ((rd_T24 l0 (wrap64 (x7_1 - 1))).f0) ≥ ((rd_T24 l0 x7_1).f0) then (some false) else (impl_TasksOk.l0 k1 l0 l0 (l0.length : Int) (wrap64 (x7_1 + 1)))) else (none)) else (none)) else (impl_TasksOk.l0 k1 l0 l0 (l0.length : Int) (wrap64 (x7_1 + 1)))) else (some false)) = some r := H
            have A5 := Aside0.mk A50
            clear A50
            by_cases c6 : t615 = true
            · subst c6
              have H1 : (if x7_1 > 0 then (if 0 ≤ (wrap64 (x7_1 - 1)) then (if (wrap64 (x7_1 - 1)) < (l0.length : Int) then (if ((rd_T24 l0 (wrap64 (x7_1 - 1))).f0) ≥ ((rd_T24 l0 x7_1).f0) then (some false) else (impl_TasksOk.l0 k1 l0 l0 (l0.length : Int) (wrap64 (x7_1 + 1)))) else (none)) else (none)) else (impl_TasksOk.l0 k1 l0 l0 (l0.length : Int) (wrap64 (x7_1 + 1)))) = some r := by rw [if_pos rfl] at H; exact H
              clear H
              have H := H1
              clear H1
              by_cases c7 : x7_1 > 0
              · rw [if_pos c7] at H
                have c7b0 : decide (0 < x7_1) = true := decide_eq_true c7
                clear c7
                obtain ⟨ji8, hji8⟩ : ∃ j_ : Int, (wrap64 (x7_1 - 1)) = j_ := ⟨_, rfl⟩
                replace H : (if 0 ≤ (ji8) then (if (ji8) < (l0.length : Int) then (if ((rd_T24 l0 (ji8)).f0) ≥ ((rd_T24 l0 x7_1).f0) then (some false) else (impl_TasksOk.l0 k1 l0 l0 (l0.length : Int) (wrap64 (x7_1 + 1)))) else (none)) else (none)) = some r := by first | (rw [hji8] at H; exact H) | (simp only [hji8] at H ⊢; exact H)
                (try rw [hji8] at A5)
                have hji8w : (IntKind.i64.wrap (x7_1 - 1)) = ji8 := (i64_w _).trans hji8
                by_cases c9 : 0 ≤ (ji8)
                · rw [if_pos c9] at H
                  have c9b0 : decide (0 ≤ (ji8)) = true := decide_eq_true c9
                  clear c9
                  by_cases c10 : (ji8) < (l0.length : Int)
                  · rw [if_pos c10] at H
                    have c10b0 : decide ((ji8) < (l0.length : Int)) = true := decide_eq_true c10
                    clear c10
                    by_cases c11 : ((rd_T24 l0 (ji8)).f0) ≥ ((rd_T24 l0 x7_1).f0)
                    · rw [if_pos c11] at H
                      have c11b0 : decide (((rd_T24 l0 x7_1).f0) ≤ ((rd_T24 l0 (ji8)).f0)) = true := decide_eq_true c11
                      clear c11
                      obtain rfl := Option.some.inj H
                      have p613 : 0 ≤ (x7_1 : Int) := of_decide_eq_true (by first | (with_reducible assumption) | assumption)
                      have q613 : x7_1 < (l0.length : Int) := of_decide_eq_true (by first | (with_reducible assumption) | assumption)
                      obtain ⟨ad613, e613, hx613_0, hx613_1, hx613_2, hx613_3, hx613_4, hx613_5, hx613_6, hx613_7, hx613_8, hx613_9, hx613_10, hx613_11, hx613_12, hx613_13⟩ := at_T24 HR0.out x7_1 p613 q613
                      cases e613
                      replace hx613_0 := (HB.out.cell (World.block_lt_of_cell? w _ hx613_0)).trans hx613_0
                      replace hx613_1 := (HB.out.cell (World.block_lt_of_cell? w _ hx613_1)).trans hx613_1
                      replace hx613_2 := (HB.out.cell (World.block_lt_of_cell? w _ hx613_2)).trans hx613_2
                      replace hx613_3 := (HB.out.cell (World.block_lt_of_cell? w _ hx613_3)).trans hx613_3
                      replace hx613_4 := (HB.out.cell (World.block_lt_of_cell? w _ hx613_4)).trans hx613_4
                      replace hx613_5 := (HB.out.cell (World.block_lt_of_cell? w _ hx613_5)).trans hx613_5
                      replace hx613_6 := (HB.out.cell (World.block_lt_of_cell? w _ hx613_6)).trans hx613_6
                      replace hx613_7 := (HB.out.cell (World.block_lt_of_cell? w _ hx613_7)).trans hx613_7
                      replace hx613_8 := (HB.out.cell (World.block_lt_of_cell? w _ hx613_8)).trans hx613_8
                      replace hx613_9 := (HB.out.cell (World.block_lt_of_cell? w _ hx613_9)).trans hx613_9
                      replace hx613_10 := (HB.out.cell (World.block_lt_of_cell? w _ hx613_10)).trans hx613_10
                      replace hx613_11 := (HB.out.cell (World.block_lt_of_cell? w _ hx613_11)).trans hx613_11
                      replace hx613_12 := (HB.out.cell (World.block_lt_of_cell? w _ hx613_12)).trans hx613_12
                      replace hx613_13 := (HB.out.cell (World.block_lt_of_cell? w _ hx613_13)).trans hx613_13
                      replace p613 := eq_true p613
                      replace q613 := eq_true q613
                      try go_wp2_with (first | ((with_reducible refine gate_dst (N := 4) rfl ?_); refine box_event ?hg (N := 4) ?hd (cs := tk14 0 0 0 0 false 0 0 0 0 0 0 0 0 0) (t := 24) ?hr ?_; (case hd => rfl); (case hg => rfl); (case hr => first | (go_simp; done) | (go_simp; rfl)); intro gb614 hg w12 hbox hb; have n0_ := Aside0.mk (below_step (by repeat (first | (with_reducible first | exact HB.out | apply below_alloc | apply pw_below_drewN | apply below_drew1) | exact HB.out)) hb); have n1_ := Aside0.mk (hbox); have n2_ := Aside0.mk ((by rw [hg]; exact (below_size (by repeat (first | (with_reducible first | exact HB.out | apply below_alloc | apply pw_below_drewN | apply below_drew1) | exact HB.out))) : w.heap.size ≤ gb614)); have n3_ := Aside0.mk ((by rw [hg]; exact (below_size (by repeat (first | (with_reducible first | exact HB.out | apply below_alloc | apply pw_below_drewN | apply below_drew1) | exact HB.out))) : w.heap.size ≤ gb614)); clear HB; have HB := n0_; have BK614 := n1_; have GW614 := n2_; have GE614 := n3_; clear n0_ n1_ n2_ n3_; clear hb hbox hg; obtain ⟨hcz13_0, hcz13_1, hcz13_2, hcz13_3, hcz13_4, hcz13_5, hcz13_6, hcz13_7, hcz13_8, hcz13_9, hcz13_10, hcz13_11, hcz13_12, hcz13_13⟩ := cz14 BK614.out; have hfz13_0 := blk_frozen BK614.out))
                      have n0_ : Aside0 (((((((((((((((w12.setCell ⟨gb614, 0, none⟩ (.int .i64 ((rd_T24 l0 x7_1).f0))).setCell ⟨gb614, 1, none⟩ (.int .i64 ((rd_T24 l0 x7_1).f1))).setCell ⟨gb614, 2, none⟩ (.int .i64 ((rd_T24 l0 x7_1).f2))).setCell ⟨gb614, 3, none⟩ (.int .i64 ((rd_T24 l0 x7_1).f3))).setCell ⟨gb614, 4, none⟩ (.bool ((rd_T24 l0 x7_1).f4))).setCell ⟨gb614, 5, none⟩ (.int .i64 ((rd_T24 l0 x7_1).f5))).setCell ⟨gb614, 6, none⟩ (.int .i64 ((rd_T24 l0 x7_1).f6))).setCell ⟨gb614, 7, none⟩ (.int .i64 ((rd_T24 l0 x7_1).f7))).setCell ⟨gb614, 8, none⟩ (.int .i64 ((rd_T24 l0 x7_1).f8))).setCell ⟨gb614, 9, none⟩ (.int .i64 ((rd_T24 l0 x7_1).f9))).setCell ⟨gb614, 10, none⟩ (.int .i64 ((rd_T24 l0 x7_1).f10))).setCell ⟨gb614, 11, none⟩ (.int .i64 ((rd_T24 l0 x7_1).f11))).setCell ⟨gb614, 12, none⟩ (.int .i64 ((rd_T24 l0 x7_1).f12))).setCell ⟨gb614, 13, none⟩ (.int .i64 ((rd_T24 l0 x7_1).f13))).heap[gb614]? = some (.cells #[.int .i64 ((rd_T24 l0 x7_1).f0), .int .i64 ((rd_T24 l0 x7_1).f1), .int .i64 ((rd_T24 l0 x7_1).f2), .int .i64 ((rd_T24 l0 x7_1).f3), .bool ((rd_T24 l0 x7_1).f4), .int .i64 ((rd_T24 l0 x7_1).f5), .int .i64 ((rd_T24 l0 x7_1).f6), .int .i64 ((rd_T24 l0 x7_1).f7), .int .i64 ((rd_T24 l0 x7_1).f8), .int .i64 ((rd_T24 l0 x7_1).f9), .int .i64 ((rd_T24 l0 x7_1).f10), .int .i64 ((rd_T24 l0 x7_1).f11), .int .i64 ((rd_T24 l0 x7_1).f12), .int .i64 ((rd_T24 l0 x7_1).f13)] 24 (0, 0))) := ⟨by (with_reducible repeat (first | refine blk_drewN ?_ _ | refine blk_drew ?_ | refine blk_alloc ?_ _)); refine blk_put (cs := tk14 ((rd_T24 l0 x7_1).f0) ((rd_T24 l0 x7_1).f1) ((rd_T24 l0 x7_1).f2) ((rd_T24 l0 x7_1).f3) ((rd_T24 l0 x7_1).f4) ((rd_T24 l0 x7_1).f5) ((rd_T24 l0 x7_1).f6) ((rd_T24 l0 x7_1).f7) ((rd_T24 l0 x7_1).f8) ((rd_T24 l0 x7_1).f9) ((rd_T24 l0 x7_1).f10) ((rd_T24 l0 x7_1).f11) ((rd_T24 l0 x7_1).f12) 0) ?_ 13 _ rfl; (with_reducible repeat (first | refine blk_drewN ?_ _ | refine blk_drew ?_ | refine blk_alloc ?_ _)); refine blk_put (cs := tk14 ((rd_T24 l0 x7_1).f0) ((rd_T24 l0 x7_1).f1) ((rd_T24 l0 x7_1).f2) ((rd_T24 l0 x7_1).f3) ((rd_T24 l0 x7_1).f4) ((rd_T24 l0 x7_1).f5) ((rd_T24 l0 x7_1).f6) ((rd_T24 l0 x7_1).f7) ((rd_T24 l0 x7_1).f8) ((rd_T24 l0 x7_1).f9) ((rd_T24 l0 x7_1).f10) ((rd_T24 l0 x7_1).f11) 0 0) ?_ 12 _ rfl; (with_reducible repeat (first | refine blk_drewN ?_ _ | refine blk_drew ?_ | refine blk_alloc ?_ _)); refine blk_put (cs := tk14 ((rd_T24 l0 x7_1).f0) ((rd_T24 l0 x7_1).f1) ((rd_T24 l0 x7_1).f2) ((rd_T24 l0 x7_1).f3) ((rd_T24 l0 x7_1).f4) ((rd_T24 l0 x7_1).f5) ((rd_T24 l0 x7_1).f6) ((rd_T24 l0 x7_1).f7) ((rd_T24 l0 x7_1).f8) ((rd_T24 l0 x7_1).f9) ((rd_T24 l0 x7_1).f10) 0 0 0) ?_ 11 _ rfl; (with_reducible repeat (first | refine blk_drewN ?_ _ | refine blk_drew ?_ | refine blk_alloc ?_ _)); refine blk_put (cs := tk14 ((rd_T24 l0 x7_1).f0) ((rd_T24 l0 x7_1).f1) ((rd_T24 l0 x7_1).f2) ((rd_T24 l0 x7_1).f3) ((rd_T24 l0 x7_1).f4) ((rd_T24 l0 x7_1).f5) ((rd_T24 l0 x7_1).f6) ((rd_T24 l0 x7_1).f7) ((rd_T24 l0 x7_1).f8) ((rd_T24 l0 x7_1).f9) 0 0 0 0) ?_ 10 _ rfl; (with_reducible repeat (first | refine blk_drewN ?_ _ | refine blk_drew ?_ | refine blk_alloc ?_ _)); refine blk_put (cs := tk14 ((rd_T24 l0 x7_1).f0) ((rd_T24 l0 x7_1).f1) ((rd_T24 l0 x7_1).f2) ((rd_T24 l0 x7_1).f3) ((rd_T24 l0 x7_1).f4) ((rd_T24 l0 x7_1).f5) ((rd_T24 l0 x7_1).f6) ((rd_T24 l0 x7_1).f7) ((rd_T24 l0 x7_1).f8) 0 0 0 0 0) ?_ 9 _ rfl; (with_reducible repeat (first | refine blk_drewN ?_ _ | refine blk_drew ?_ | refine blk_alloc ?_ _)); refine blk_put (cs := tk14 ((rd_T24 l0 x7_1).f0) ((rd_T24 l0 x7_1).f1) ((rd_T24 l0 x7_1).f2) ((rd_T24 l0 x7_1).f3) ((rd_T24 l0 x7_1).f4) ((rd_T24 l0 x7_1).f5) ((rd_T24 l0 x7_1).f6) ((rd_T24 l0 x7_1).f7) 0 0 0 0 0 0) ?_ 8 _ rfl; (with_reducible repeat (first | refine blk_drewN ?_ _ | refine blk_drew ?_ | refine blk_alloc ?_ _)); refine blk_put (cs := tk14 ((rd_T24 l0 x7_1).f0) ((rd_T24 l0 x7_1).f1) ((rd_T24 l0 x7_1).f2) ((rd_T24 l0 x7_1).f3) ((rd_T24 l0 x7_1).f4) ((rd_T24 l0 x7_1).f5) ((rd_T24 l0 x7_1).f6) 0 0 0 0 0 0 0) ?_ 7 _ rfl; (with_reducible repeat (first | refine blk_drewN ?_ _ | refine blk_drew ?_ | refine blk_alloc ?_ _)); refine blk_put (cs := tk14 ((rd_T24 l0 x7_1).f0) ((rd_T24 l0 x7_1).f1) ((rd_T24 l0 x7_1).f2) ((rd_T24 l0 x7_1).f3) ((rd_T24 l0 x7_1).f4) ((rd_T24 l0 x7_1).f5) 0 0 0 0 0 0 0 0) ?_ 6 _ rfl; (with_reducible repeat (first | refine blk_drewN ?_ _ | refine blk_drew ?_ | refine blk_alloc ?_ _)); refine blk_put (cs := tk14 ((rd_T24 l0 x7_1).f0) ((rd_T24 l0 x7_1).f1) ((rd_T24 l0 x7_1).f2) ((rd_T24 l0 x7_1).f3) ((rd_T24 l0 x7_1).f4) 0 0 0 0 0 0 0 0 0) ?_ 5 _ rfl; (with_reducible repeat (first | refine blk_drewN ?_ _ | refine blk_drew ?_ | refine blk_alloc ?_ _)); refine blk_put (cs := tk14 ((rd_T24 l0 x7_1).f0) ((rd_T24 l0 x7_1).f1) ((rd_T24 l0 x7_1).f2) ((rd_T24 l0 x7_1).f3) false 0 0 0 0 0 0 0 0 0) ?_ 4 _ rfl; (with_reducible repeat (first | refine blk_drewN ?_ _ | refine blk_drew ?_ | refine blk_alloc ?_ _)); refine blk_put (cs := tk14 ((rd_T24 l0 x7_1).f0) ((rd_T24 l0 x7_1).f1) ((rd_T24 l0 x7_1).f2) 0 false 0 0 0 0 0 0 0 0 0) ?_ 3 _ rfl; (with_reducible repeat (first | refine blk_drewN ?_ _ | refine blk_drew ?_ | refine blk_alloc ?_ _)); refine blk_put (cs := tk14 ((rd_T24 l0 x7_1).f0) ((rd_T24 l0 x7_1).f1) 0 0 false 0 0 0 0 0 0 0 0 0) ?_ 2 _ rfl; (with_reducible repeat (first | refine blk_drewN ?_ _ | refine blk_drew ?_ | refine blk_alloc ?_ _)); refine blk_put (cs := tk14 ((rd_T24 l0 x7_1).f0) 0 0 0 false 0 0 0 0 0 0 0 0 0) ?_ 1 _ rfl; (with_reducible repeat (first | refine blk_drewN ?_ _ | refine blk_drew ?_ | refine blk_alloc ?_ _)); refine blk_put (cs := tk14 0 0 0 0 false 0 0 0 0 0 0 0 0 0) ?_ 0 _ rfl; (with_reducible repeat (first | refine blk_drewN ?_ _ | refine blk_drew ?_ | refine blk_alloc ?_ _)); exact BK614.out⟩
                      have n1_ : Aside0 (Below w.heap.size w ((((((((((((((w12.setCell ⟨gb614, 0, none⟩ (.int .i64 ((rd_T24 l0 x7_1).f0))).setCell ⟨gb614, 1, none⟩ (.int .i64 ((rd_T24 l0 x7_1).f1))).setCell ⟨gb614, 2, none⟩ (.int .i64 ((rd_T24 l0 x7_1).f2))).setCell ⟨gb614, 3, none⟩ (.int .i64 ((rd_T24 l0 x7_1).f3))).setCell ⟨gb614, 4, none⟩ (.bool ((rd_T24 l0 x7_1).f4))).setCell ⟨gb614, 5, none⟩ (.int .i64 ((rd_T24 l0 x7_1).f5))).setCell ⟨gb614, 6, none⟩ (.int .i64 ((rd_T24 l0 x7_1).f6))).setCell ⟨gb614, 7, none⟩ (.int .i64 ((rd_T24 l0 x7_1).f7))).setCell ⟨gb614, 8, none⟩ (.int .i64 ((rd_T24 l0 x7_1).f8))).setCell ⟨gb614, 9, none⟩ (.int .i64 ((rd_T24 l0 x7_1).f9))).setCell ⟨gb614, 10, none⟩ (.int .i64 ((rd_T24 l0 x7_1).f10))).setCell ⟨gb614, 11, none⟩ (.int .i64 ((rd_T24 l0 x7_1).f11))).setCell ⟨gb614, 12, none⟩ (.int .i64 ((rd_T24 l0 x7_1).f12))).setCell ⟨gb614, 13, none⟩ (.int .i64 ((rd_T24 l0 x7_1).f13)))) := ⟨by repeat (first | (with_reducible first | exact HB.out | apply below_alloc | apply pw_below_drewN | apply below_drew1 | refine below_set ?_ GE614.out) | exact HB.out)⟩
                      (try clear BK614)
                      (try clear HB)
                      generalize ((((((((((((((w12.setCell ⟨gb614, 0, none⟩ (.int .i64 ((rd_T24 l0 x7_1).f0))).setCell ⟨gb614, 1, none⟩ (.int .i64 ((rd_T24 l0 x7_1).f1))).setCell ⟨gb614, 2, none⟩ (.int .i64 ((rd_T24 l0 x7_1).f2))).setCell ⟨gb614, 3, none⟩ (.int .i64 ((rd_T24 l0 x7_1).f3))).setCell ⟨gb614, 4, none⟩ (.bool ((rd_T24 l0 x7_1).f4))).setCell ⟨gb614, 5, none⟩ (.int .i64 ((rd_T24 l0 x7_1).f5))).setCell ⟨gb614, 6, none⟩ (.int .i64 ((rd_T24 l0 x7_1).f6))).setCell ⟨gb614, 7, none⟩ (.int .i64 ((rd_T24 l0 x7_1).f7))).setCell ⟨gb614, 8, none⟩ (.int .i64 ((rd_T24 l0 x7_1).f8))).setCell ⟨gb614, 9, none⟩ (.int .i64 ((rd_T24 l0 x7_1).f9))).setCell ⟨gb614, 10, none⟩ (.int .i64 ((rd_T24 l0 x7_1).f10))).setCell ⟨gb614, 11, none⟩ (.int .i64 ((rd_T24 l0 x7_1).f11))).setCell ⟨gb614, 12, none⟩ (.int .i64 ((rd_T24 l0 x7_1).f12))).setCell ⟨gb614, 13, none⟩ (.int .i64 ((rd_T24 l0 x7_1).f13))) = w14 at n0_ n1_ ⊢
                      have BK614 := n0_
                      have HB := n1_
                      clear n0_ n1_
                      have n0_ := Aside0.mk (blk_drew BK614.out)
                      have n1_ := Aside0.mk (below_drew1 HB.out)
                      clear BK614
                      clear HB
                      have BK614 := n0_
                      have HB := n1_
                      clear n0_ n1_
                      have p616 : 0 ≤ ((ji8) : Int) := of_decide_eq_true (by first | (with_reducible assumption) | assumption)
                      have q616 : (ji8) < (l0.length : Int) := of_decide_eq_true (by first | (with_reducible assumption) | assumption)
                      obtain ⟨ad616, e616, hx616_0, hx616_1, hx616_2, hx616_3, hx616_4, hx616_5, hx616_6, hx616_7, hx616_8, hx616_9, hx616_10, hx616_11, hx616_12, hx616_13⟩ := at_T24 HR0.out (ji8) p616 q616
                      have hw616_13 := hx616_13
                      have hw616_12 := hx616_12
                      have hw616_11 := hx616_11
                      have hw616_10 := hx616_10
                      have hw616_9 := hx616_9
                      have hw616_8 := hx616_8
                      have hw616_7 := hx616_7
                      have hw616_6 := hx616_6
                      have hw616_5 := hx616_5
                      have hw616_4 := hx616_4
                      have hw616_3 := hx616_3
                      have hw616_2 := hx616_2
                      have hw616_1 := hx616_1
                      have hw616_0 := hx616_0
                      obtain rfl : ad613 = ad616 := (by injection e616)
                      replace hx616_0 := (HB.out.cell (World.block_lt_of_cell? w _ hx616_0)).trans hx616_0
                      replace hx616_1 := (HB.out.cell (World.block_lt_of_cell? w _ hx616_1)).trans hx616_1
                      replace hx616_2 := (HB.out.cell (World.block_lt_of_cell? w _ hx616_2)).trans hx616_2
                      replace hx616_3 := (HB.out.cell (World.block_lt_of_cell? w _ hx616_3)).trans hx616_3
                      replace hx616_4 := (HB.out.cell (World.block_lt_of_cell? w _ hx616_4)).trans hx616_4
                      replace hx616_5 := (HB.out.cell (World.block_lt_of_cell? w _ hx616_5)).trans hx616_5
                      replace hx616_6 := (HB.out.cell (World.block_lt_of_cell? w _ hx616_6)).trans hx616_6
                      replace hx616_7 := (HB.out.cell (World.block_lt_of_cell? w _ hx616_7)).trans hx616_7
                      replace hx616_8 := (HB.out.cell (World.block_lt_of_cell? w _ hx616_8)).trans hx616_8
                      replace hx616_9 := (HB.out.cell (World.block_lt_of_cell? w _ hx616_9)).trans hx616_9
                      replace hx616_10 := (HB.out.cell (World.block_lt_of_cell? w _ hx616_10)).trans hx616_10
                      replace hx616_11 := (HB.out.cell (World.block_lt_of_cell? w _ hx616_11)).trans hx616_11
                      replace hx616_12 := (HB.out.cell (World.block_lt_of_cell? w _ hx616_12)).trans hx616_12
                      replace hx616_13 := (HB.out.cell (World.block_lt_of_cell? w _ hx616_13)).trans hx616_13
                      replace p616 := eq_true p616
                      replace q616 := eq_true q616
                      refine start_ (n := 18) (S := fun w' => w'.cell? ⟨gb614, 0, none⟩ = some (.int .i64 ((rd_T24 l0 x7_1).f0)) ∧ w'.cell? ⟨gb614, 1, none⟩ = some (.int .i64 ((rd_T24 l0 x7_1).f1)) ∧ w'.cell? ⟨gb614, 2, none⟩ = some (.int .i64 ((rd_T24 l0 x7_1).f2)) ∧ w'.cell? ⟨gb614, 3, none⟩ = some (.int .i64 ((rd_T24 l0 x7_1).f3)) ∧ w'.cell? ⟨gb614, 4, none⟩ = some (.bool ((rd_T24 l0 x7_1).f4)) ∧ w'.cell? ⟨gb614, 5, none⟩ = some (.int .i64 ((rd_T24 l0 x7_1).f5)) ∧ w'.cell? ⟨gb614, 6, none⟩ = some (.int .i64 ((rd_T24 l0 x7_1).f6)) ∧ w'.cell? ⟨gb614, 7, none⟩ = some (.int .i64 ((rd_T24 l0 x7_1).f7)) ∧ w'.cell? ⟨gb614, 8, none⟩ = some (.int .i64 ((rd_T24 l0 x7_1).f8)) ∧ w'.cell? ⟨gb614, 9, none⟩ = some (.int .i64 ((rd_T24 l0 x7_1).f9)) ∧ w'.cell? ⟨gb614, 10, none⟩ = some (.int .i64 ((rd_T24 l0 x7_1).f10)) ∧ w'.cell? ⟨gb614, 11, none⟩ = some (.int .i64 ((rd_T24 l0 x7_1).f11)) ∧ w'.cell? ⟨gb614, 12, none⟩ = some (.int .i64 ((rd_T24 l0 x7_1).f12)) ∧ w'.cell? ⟨gb614, 13, none⟩ = some (.int .i64 ((rd_T24 l0 x7_1).f13)) ∧ w'.cell? (ad613.add (((ji8)).toNat * 14)) = some (.int .i64 ((rd_T24 l0 (ji8)).f0)) ∧ w'.cell? ⟨(ad613.add (((ji8)).toNat * 14)).block, (ad613.add (((ji8)).toNat * 14)).off + 1, none⟩ = some (.int .i64 ((rd_T24 l0 (ji8)).f1)) ∧ w'.cell? ⟨(ad613.add (((ji8)).toNat * 14)).block, (ad613.add (((ji8)).toNat * 14)).off + 2, none⟩ = some (.int .i64 ((rd_T24 l0 (ji8)).f2)) ∧ w'.cell? ⟨(ad613.add (((ji8)).toNat * 14)).block, (ad613.add (((ji8)).toNat * 14)).off + 3, none⟩ = some (.int .i64 ((rd_T24 l0 (ji8)).f3)) ∧ w'.cell? ⟨(ad613.add (((ji8)).toNat * 14)).block, (ad613.add (((ji8)).toNat * 14)).off + 4, none⟩ = some (.bool ((rd_T24 l0 (ji8)).f4)) ∧ w'.cell? ⟨(ad613.add (((ji8)).toNat * 14)).block, (ad613.add (((ji8)).toNat * 14)).off + 5, none⟩ = some (.int .i64 ((rd_T24 l0 (ji8)).f5)) ∧ w'.cell? ⟨(ad613.add (((ji8)).toNat * 14)).block, (ad613.add (((ji8)).toNat * 14)).off + 6, none⟩ = some (.int .i64 ((rd_T24 l0 (ji8)).f6)) ∧ w'.cell? ⟨(ad613.add (((ji8)).toNat * 14)).block, (ad613.add (((ji8)).toNat * 14)).off + 7, none⟩ = some (.int .i64 ((rd_T24 l0 (ji8)).f7)) ∧ w'.cell? ⟨(ad613.add (((ji8)).toNat * 14)).block, (ad613.add (((ji8)).toNat * 14)).off + 8, none⟩ = some (.int .i64 ((rd_T24 l0 (ji8)).f8)) ∧ w'.cell? ⟨(ad613.add (((ji8)).toNat * 14)).block, (ad613.add (((ji8)).toNat * 14)).off + 9, none⟩ = some (.int .i64 ((rd_T24 l0 (ji8)).f9)) ∧ w'.cell? ⟨(ad613.add (((ji8)).toNat * 14)).block, (ad613.add (((ji8)).toNat * 14)).off + 10, none⟩ = some (.int .i64 ((rd_T24 l0 (ji8)).f10)) ∧ w'.cell? ⟨(ad613.add (((ji8)).toNat * 14)).block, (ad613.add (((ji8)).toNat * 14)).off + 11, none⟩ = some (.int .i64 ((rd_T24 l0 (ji8)).f11)) ∧ w'.cell? ⟨(ad613.add (((ji8)).toNat * 14)).block, (ad613.add (((ji8)).toNat * 14)).off + 12, none⟩ = some (.int .i64 ((rd_T24 l0 (ji8)).f12)) ∧ w'.cell? ⟨(ad613.add (((ji8)).toNat * 14)).block, (ad613.add (((ji8)).toNat * 14)).off + 13, none⟩ = some (.int .i64 ((rd_T24 l0 (ji8)).f13))) (ds := []) #[false, false, false, false, false, false, false, false, false, false, false, false, false, false, false, false, false, false] (by kernel_rfl) rfl rfl ⟨(blk_cell BK614.out 0).trans rfl, (blk_cell BK614.out 1).trans rfl, (blk_cell BK614.out 2).trans rfl, (blk_cell BK614.out 3).trans rfl, (blk_cell BK614.out 4).trans rfl, (blk_cell BK614.out 5).trans rfl, (blk_cell BK614.out 6).trans rfl, (blk_cell BK614.out 7).trans rfl, (blk_cell BK614.out 8).trans rfl, (blk_cell BK614.out 9).trans rfl, (blk_cell BK614.out 10).trans rfl, (blk_cell BK614.out 11).trans rfl, (blk_cell BK614.out 12).trans rfl, (blk_cell BK614.out 13).trans rfl, ((HB.out.cell (World.block_lt_of_cell? w _ hw616_0)).trans hw616_0), ((HB.out.cell (World.block_lt_of_cell? w _ hw616_1)).trans hw616_1), ((HB.out.cell (World.block_lt_of_cell? w _ hw616_2)).trans hw616_2), ((HB.out.cell (World.block_lt_of_cell? w _ hw616_3)).trans hw616_3), ((HB.out.cell (World.block_lt_of_cell? w _ hw616_4)).trans hw616_4), ((HB.out.cell (World.block_lt_of_cell? w _ hw616_5)).trans hw616_5), ((HB.out.cell (World.block_lt_of_cell? w _ hw616_6)).trans hw616_6), ((HB.out.cell (World.block_lt_of_cell? w _ hw616_7)).trans hw616_7), ((HB.out.cell (World.block_lt_of_cell? w _ hw616_8)).trans hw616_8), ((HB.out.cell (World.block_lt_of_cell? w _ hw616_9)).trans hw616_9), ((HB.out.cell (World.block_lt_of_cell? w _ hw616_10)).trans hw616_10), ((HB.out.cell (World.block_lt_of_cell? w _ hw616_11)).trans hw616_11), ((HB.out.cell (World.block_lt_of_cell? w _ hw616_12)).trans hw616_12), ((HB.out.cell (World.block_lt_of_cell? w _ hw616_13)).trans hw616_13)⟩ (fun hHeld => ?_); refine with_tabW impl_TasksOk.tab4 impl_TasksOk.bits4 (fun HT_ HW_ => ?_)
                      generalize w14.drew = w15 at BK614 HB hx616_0 hx616_1 hx616_10 hx616_11 hx616_12 hx616_13 hx616_2 hx616_3 hx616_4 hx616_5 hx616_6 hx616_7 hx616_8 hx616_9 hHeld ⊢
                      refine take_ (i := 0) (N := some 12) (v := ?_) (a' := ?_) #[true, false, false, false, false, false, false, false, false, false, false, false, false, false, false, false, false, false] rfl rfl (take_ofW HT_.out HW_.out (by kernel_rfl)) (fun _ _ _ h => h) (Or.inl ⟨by rfl, ?_⟩) hHeld ?_ ?_
                      rotate_left
                      · rintro w' ⟨s0, s1, s2, s3, s4, s5, s6, s7, s8, s9, s10, s11, s12, s13, s14, s15, s16, s17, s18, s19, s20, s21, s22, s23, s24, s25, s26, s27⟩
                        go_simp
                        with_reducible rfl
                      rotate_left
                      · simp only [Act.put, List.setIfInBounds_toArray, List.set_cons_zero, List.set_cons_succ, i64_w, i32_w]
                        rfl
                      refine one_ (i := 1) (N := some 13) #[true, true, false, false, false, false, false, false, false, false, false, false, false, false, false, false, false, false] rfl rfl (one_of HT_.out (by kernel_rfl)) (by decide) (fun K hK => ?_)
                      refine goes_ Try.func29 (by kernel_rfl) rfl #[.agg #[.int .i64 ((rd_T24 l0 x7_1).f0), .int .i64 ((rd_T24 l0 x7_1).f1), .int .i64 ((rd_T24 l0 x7_1).f2), .int .i64 ((rd_T24 l0 x7_1).f3), .bool ((rd_T24 l0 x7_1).f4), .int .i64 ((rd_T24 l0 x7_1).f5), .int .i64 ((rd_T24 l0 x7_1).f6), .int .i64 ((rd_T24 l0 x7_1).f7), .int .i64 ((rd_T24 l0 x7_1).f8), .int .i64 ((rd_T24 l0 x7_1).f9), .int .i64 ((rd_T24 l0 x7_1).f10), .int .i64 ((rd_T24 l0 x7_1).f11), .int .i64 ((rd_T24 l0 x7_1).f12), .int .i64 ((rd_T24 l0 x7_1).f13)]] (by rfl) rfl rfl (by (try simp only [List.map_toArray, List.map_cons, List.map_nil]); first | done | rfl | (simp only [List.length_drop, List.length_take]; rfl)) ?_
                      with_reducible refine (impl_TaskOk.calls ((rd_T24 l0 x7_1).f0) ((rd_T24 l0 x7_1).f1) ((rd_T24 l0 x7_1).f2) ((rd_T24 l0 x7_1).f3) ((rd_T24 l0 x7_1).f4) ((rd_T24 l0 x7_1).f5) ((rd_T24 l0 x7_1).f6) ((rd_T24 l0 x7_1).f7) ((rd_T24 l0 x7_1).f8) ((rd_T24 l0 x7_1).f9) ((rd_T24 l0 x7_1).f10) ((rd_T24 l0 x7_1).f11) ((rd_T24 l0 x7_1).f12) ((rd_T24 l0 x7_1).f13) true _ A5.out).mono ?_
                      rintro e w16 ⟨rfl, hb⟩
                      refine ⟨_, rfl, ?_⟩
                      have n0_ := Aside0.mk (blk_below (g := gb614) (o := .cells (tk14 ((rd_T24 l0 x7_1).f0) ((rd_T24 l0 x7_1).f1) ((rd_T24 l0 x7_1).f2) ((rd_T24 l0 x7_1).f3) ((rd_T24 l0 x7_1).f4) ((rd_T24 l0 x7_1).f5) ((rd_T24 l0 x7_1).f6) ((rd_T24 l0 x7_1).f7) ((rd_T24 l0 x7_1).f8) ((rd_T24 l0 x7_1).f9) ((rd_T24 l0 x7_1).f10) ((rd_T24 l0 x7_1).f11) ((rd_T24 l0 x7_1).f12) ((rd_T24 l0 x7_1).f13)) 24 (0, 0)) (by (with_reducible repeat (first | refine blk_drewN ?_ _ | refine blk_drew ?_ | refine blk_alloc ?_ _)); exact BK614.out) hb)
                      have n1_ := Aside0.mk (below_step (by repeat (first | (with_reducible first | exact HB.out | apply below_alloc | apply pw_below_drewN | apply below_drew1 | refine below_set ?_ GE614.out) | exact HB.out)) hb)
                      clear BK614
                      clear HB
                      have BK614 := n0_
                      have HB := n1_
                      clear n0_ n1_
                      (try clear hb)
                      (try clear hb2)
                      (try clear hk)
                      (try clear hi)
                      refine hK.out _ _ ⟨(blk_cell BK614.out 0).trans rfl, (blk_cell BK614.out 1).trans rfl, (blk_cell BK614.out 2).trans rfl, (blk_cell BK614.out 3).trans rfl, (blk_cell BK614.out 4).trans rfl, (blk_cell BK614.out 5).trans rfl, (blk_cell BK614.out 6).trans rfl, (blk_cell BK614.out 7).trans rfl, (blk_cell BK614.out 8).trans rfl, (blk_cell BK614.out 9).trans rfl, (blk_cell BK614.out 10).trans rfl, (blk_cell BK614.out 11).trans rfl, (blk_cell BK614.out 12).trans rfl, (blk_cell BK614.out 13).trans rfl, ((HB.out.cell (World.block_lt_of_cell? w _ hw616_0)).trans hw616_0), ((HB.out.cell (World.block_lt_of_cell? w _ hw616_1)).trans hw616_1), ((HB.out.cell (World.block_lt_of_cell? w _ hw616_2)).trans hw616_2), ((HB.out.cell (World.block_lt_of_cell? w _ hw616_3)).trans hw616_3), ((HB.out.cell (World.block_lt_of_cell? w _ hw616_4)).trans hw616_4), ((HB.out.cell (World.block_lt_of_cell? w _ hw616_5)).trans hw616_5), ((HB.out.cell (World.block_lt_of_cell? w _ hw616_6)).trans hw616_6), ((HB.out.cell (World.block_lt_of_cell? w _ hw616_7)).trans hw616_7), ((HB.out.cell (World.block_lt_of_cell? w _ hw616_8)).trans hw616_8), ((HB.out.cell (World.block_lt_of_cell? w _ hw616_9)).trans hw616_9), ((HB.out.cell (World.block_lt_of_cell? w _ hw616_10)).trans hw616_10), ((HB.out.cell (World.block_lt_of_cell? w _ hw616_11)).trans hw616_11), ((HB.out.cell (World.block_lt_of_cell? w _ hw616_12)).trans hw616_12), ((HB.out.cell (World.block_lt_of_cell? w _ hw616_13)).trans hw616_13)⟩ (fun hHeld => ?_)
                      clear hK K
                      refine norm_ (a' := ?_) ?_ ?_
                      rotate_left
                      · show Act.put _ (some 13) _ = _
                        simp only [Act.put, List.setIfInBounds_toArray, List.set_cons_zero, List.set_cons_succ, i64_w, i32_w]
                        rfl
                      refine pure_ (i := 2) (N := some 14) (v := ?_) (a' := ?_) #[true, true, true, false, false, false, false, false, false, false, false, false, false, false, false, false, false, false] rfl rfl (any_of HT_.out (by kernel_rfl)) (fun _ _ _ h => h) (Or.inl ⟨by rfl, ?_⟩) ?_ ?_
                      rotate_left
                      · intro w'
                        go_simp
                        with_reducible rfl
                      rotate_left
                      · simp only [Act.put, List.setIfInBounds_toArray, List.set_cons_zero, List.set_cons_succ, i64_w, i32_w]
                        rfl
                      refine pure_ (i := 3) (N := some 15) (v := ?_) (a' := ?_) #[true, true, true, true, false, false, false, false, false, false, false, false, false, false, false, false, false, false] rfl rfl (any_of HT_.out (by kernel_rfl)) (fun _ _ _ h => h) (Or.inl ⟨by rfl, ?_⟩) ?_ ?_
                      rotate_left
                      · intro w'
                        go_simp
                        with_reducible rfl
                      rotate_left
                      · simp only [Act.put, List.setIfInBounds_toArray, List.set_cons_zero, List.set_cons_succ, i64_w, i32_w]
                        rfl
                      refine pure_ (i := 4) (N := some 16) (v := ?_) (a' := ?_) #[true, true, true, true, true, false, false, false, false, false, false, false, false, false, false, false, false, false] rfl rfl (any_of HT_.out (by kernel_rfl)) (fun _ _ _ h => h) (Or.inl ⟨by rfl, ?_⟩) ?_ ?_
                      rotate_left
                      · intro w'
                        go_simp
                        with_reducible rfl
                      rotate_left
                      · simp only [Act.put, List.setIfInBounds_toArray, List.set_cons_zero, List.set_cons_succ, i64_w, i32_w]
                        rfl
                      refine pure_ (i := 5) (N := some 17) (v := ?_) (a' := ?_) #[true, true, true, true, true, true, false, false, false, false, false, false, false, false, false, false, false, false] rfl rfl (any_of HT_.out (by kernel_rfl)) (fun _ _ _ h => h) (Or.inl ⟨by rfl, ?_⟩) ?_ ?_
                      rotate_left
                      · intro w'
                        go_simp
                        with_reducible rfl
                      rotate_left
                      · simp only [Act.put, List.setIfInBounds_toArray, List.set_cons_zero, List.set_cons_succ, i64_w, i32_w]
                        rfl
                      refine pure_ (i := 6) (N := some 18) (v := ?_) (a' := ?_) #[true, true, true, true, true, true, true, false, false, false, false, false, false, false, false, false, false, false] rfl rfl (any_of HT_.out (by kernel_rfl)) (fun _ _ _ h => h) (Or.inl ⟨by rfl, ?_⟩) ?_ ?_
                      rotate_left
                      · intro w'
                        go_simp
                        with_reducible rfl
                      rotate_left
                      · simp only [Act.put, List.setIfInBounds_toArray, List.set_cons_zero, List.set_cons_succ, i64_w, i32_w]
                        rfl
                      refine pure_ (i := 7) (N := some 19) (v := ?_) (a' := ?_) #[true, true, true, true, true, true, true, true, false, false, false, false, false, false, false, false, false, false] rfl rfl (any_of HT_.out (by kernel_rfl)) (fun _ _ _ h => h) (Or.inl ⟨by rfl, ?_⟩) ?_ ?_
                      rotate_left
                      · intro w'
                        go_simp
                        with_reducible rfl
                      rotate_left
                      · simp only [Act.put, List.setIfInBounds_toArray, List.set_cons_zero, List.set_cons_succ, i64_w, i32_w]
                        rfl
                      refine pure_ (i := 8) (N := some 20) (v := ?_) (a' := ?_) #[true, true, true, true, true, true, true, true, true, false, false, false, false, false, false, false, false, false] rfl rfl (any_of HT_.out (by kernel_rfl)) (fun _ _ _ h => h) (Or.inl ⟨by rfl, ?_⟩) ?_ ?_
                      rotate_left
                      · intro w'
                        go_simp
                        with_reducible rfl
                      rotate_left
                      · simp only [Act.put, List.setIfInBounds_toArray, List.set_cons_zero, List.set_cons_succ, i64_w, i32_w]
                        rfl
                      refine pure_ (i := 9) (N := some 21) (v := ?_) (a' := ?_) #[true, true, true, true, true, true, true, true, true, true, false, false, false, false, false, false, false, false] rfl rfl (any_of HT_.out (by kernel_rfl)) (fun _ _ _ h => h) (Or.inl ⟨by rfl, ?_⟩) ?_ ?_
                      rotate_left
                      · intro w'
                        go_simp
                        with_reducible rfl
                      rotate_left
                      · simp only [Act.put, List.setIfInBounds_toArray, List.set_cons_zero, List.set_cons_succ, i64_w, i32_w]
                        rfl
                      refine pure_ (i := 10) (N := some 22) (v := ?_) (a' := ?_) #[true, true, true, true, true, true, true, true, true, true, true, false, false, false, false, false, false, false] rfl rfl (any_of HT_.out (by kernel_rfl)) (fun _ _ _ h => h) (Or.inl ⟨by rfl, ?_⟩) ?_ ?_
                      rotate_left
                      · intro w'
                        go_simp
                        with_reducible rfl
                      rotate_left
                      · simp only [Act.put, List.setIfInBounds_toArray, List.set_cons_zero, List.set_cons_succ, i64_w, i32_w]
                        rfl
                      refine pure_ (i := 11) (N := some 23) (v := ?_) (a' := ?_) #[true, true, true, true, true, true, true, true, true, true, true, true, false, false, false, false, false, false] rfl rfl (any_of HT_.out (by kernel_rfl)) (fun _ _ _ h => h) (Or.inl ⟨by rfl, ?_⟩) ?_ ?_
                      rotate_left
                      · intro w'
                        go_simp
                        with_reducible rfl
                      rotate_left
                      · simp only [Act.put, List.setIfInBounds_toArray, List.set_cons_zero, List.set_cons_succ, i64_w, i32_w]
                        rfl
                      refine pure_ (i := 13) (N := some 25) (v := ?_) (a' := ?_) #[true, true, true, true, true, true, true, true, true, true, true, true, false, true, false, false, false, false] rfl rfl (any_of HT_.out (by kernel_rfl)) (fun _ _ _ h => h) (Or.inl ⟨by rfl, ?_⟩) ?_ ?_
                      rotate_left
                      · intro w'
                        go_simp
                        with_reducible rfl
                      rotate_left
                      · simp only [Act.put, List.setIfInBounds_toArray, List.set_cons_zero, List.set_cons_succ, i64_w, i32_w]
                        rfl
                      refine take_ (i := 12) (N := some 24) (v := ?_) (a' := ?_) #[true, true, true, true, true, true, true, true, true, true, true, true, true, true, false, false, false, false] rfl rfl (take_ofW HT_.out HW_.out (by kernel_rfl)) (fun _ _ _ h => h) (Or.inl ⟨by rfl, ?_⟩) hHeld ?_ ?_
                      rotate_left
                      · rintro w' ⟨s0, s1, s2, s3, s4, s5, s6, s7, s8, s9, s10, s11, s12, s13, s14, s15, s16, s17, s18, s19, s20, s21, s22, s23, s24, s25, s26, s27⟩
                        go_simp
                        with_reducible rfl
                      rotate_left
                      · simp only [Act.put, List.setIfInBounds_toArray, List.set_cons_zero, List.set_cons_succ, i64_w, i32_w]
                        rfl
                      refine take_ (i := 14) (N := some 26) (v := ?_) (a' := ?_) #[true, true, true, true, true, true, true, true, true, true, true, true, true, true, true, false, false, false] rfl rfl (take_ofW HT_.out HW_.out (by kernel_rfl)) (fun _ _ _ h => h) (Or.inl ⟨by rfl, ?_⟩) hHeld ?_ ?_
                      rotate_left
                      · rintro w' ⟨s0, s1, s2, s3, s4, s5, s6, s7, s8, s9, s10, s11, s12, s13, s14, s15, s16, s17, s18, s19, s20, s21, s22, s23, s24, s25, s26, s27⟩
                        go_simp
                        with_reducible rfl
                      rotate_left
                      · simp only [Act.put, List.setIfInBounds_toArray, List.set_cons_zero, List.set_cons_succ, i64_w, i32_w]
                        rfl
                      refine pure_ (i := 15) (N := some 27) (v := ?_) (a' := ?_) #[true, true, true, true, true, true, true, true, true, true, true, true, true, true, true, true, false, false] rfl rfl (any_of HT_.out (by kernel_rfl)) (fun _ _ _ h => h) (Or.inl ⟨by rfl, ?_⟩) ?_ ?_
                      rotate_left
                      · intro w'
                        go_simp
                        with_reducible rfl
                      rotate_left
                      · simp only [Act.put, List.setIfInBounds_toArray, List.set_cons_zero, List.set_cons_succ, i64_w, i32_w]
                        rfl
                      refine pure_ (i := 16) (N := some 28) (v := ?_) (a' := ?_) #[true, true, true, true, true, true, true, true, true, true, true, true, true, true, true, true, true, false] rfl rfl (any_of HT_.out (by kernel_rfl)) (fun _ _ _ h => h) (Or.inl ⟨by rfl, ?_⟩) ?_ ?_
                      rotate_left
                      · intro w'
                        go_simp
                        with_reducible rfl
                      rotate_left
                      · simp only [Act.put, List.setIfInBounds_toArray, List.set_cons_zero, List.set_cons_succ, i64_w, i32_w]
                        rfl
                      refine pure_ (i := 17) (N := some 29) (v := ?_) (a' := ?_) #[true, true, true, true, true, true, true, true, true, true, true, true, true, true, true, true, true, true] rfl rfl (any_of HT_.out (by kernel_rfl)) (fun _ _ _ h => h) (Or.inl ⟨by rfl, ?_⟩) ?_ ?_
                      rotate_left
                      · intro w'
                        go_simp
                        with_reducible rfl
                      rotate_left
                      · simp only [Act.put, List.setIfInBounds_toArray, List.set_cons_zero, List.set_cons_succ, i64_w, i32_w]
                        rfl
                      refine done_ (done_of HT_.out (by kernel_rfl)) ?_
                      try go_wp2
                      go_ret
                      exact ⟨by first | rfl | (simp [errW_none, errW_some] <;> rfl) | (simp only [← hji8]; first | rfl | (simp [errW_none, errW_some] <;> rfl)) | (simp [*, errW_none, errW_some] <;> rfl), by repeat (first | (with_reducible first | exact HB.out | apply below_alloc | apply pw_below_drewN | apply below_drew1 | refine below_set ?_ GE614.out) | exact HB.out)⟩
                    · rw [if_neg c11] at H
                      have c11b0 : decide (((rd_T24 l0 x7_1).f0) ≤ ((rd_T24 l0 (ji8)).f0)) = false := decide_eq_false c11
                      clear c11
                      have H' := Aside0.mk H
                      clear H
                      have p613 : 0 ≤ (x7_1 : Int) := of_decide_eq_true (by first | (with_reducible assumption) | assumption)
                      have q613 : x7_1 < (l0.length : Int) := of_decide_eq_true (by first | (with_reducible assumption) | assumption)
                      obtain ⟨ad613, e613, hx613_0, hx613_1, hx613_2, hx613_3, hx613_4, hx613_5, hx613_6, hx613_7, hx613_8, hx613_9, hx613_10, hx613_11, hx613_12, hx613_13⟩ := at_T24 HR0.out x7_1 p613 q613
                      cases e613
                      replace hx613_0 := (HB.out.cell (World.block_lt_of_cell? w _ hx613_0)).trans hx613_0
                      replace hx613_1 := (HB.out.cell (World.block_lt_of_cell? w _ hx613_1)).trans hx613_1
                      replace hx613_2 := (HB.out.cell (World.block_lt_of_cell? w _ hx613_2)).trans hx613_2
                      replace hx613_3 := (HB.out.cell (World.block_lt_of_cell? w _ hx613_3)).trans hx613_3
                      replace hx613_4 := (HB.out.cell (World.block_lt_of_cell? w _ hx613_4)).trans hx613_4
                      replace hx613_5 := (HB.out.cell (World.block_lt_of_cell? w _ hx613_5)).trans hx613_5
                      replace hx613_6 := (HB.out.cell (World.block_lt_of_cell? w _ hx613_6)).trans hx613_6
                      replace hx613_7 := (HB.out.cell (World.block_lt_of_cell? w _ hx613_7)).trans hx613_7
                      replace hx613_8 := (HB.out.cell (World.block_lt_of_cell? w _ hx613_8)).trans hx613_8
                      replace hx613_9 := (HB.out.cell (World.block_lt_of_cell? w _ hx613_9)).trans hx613_9
                      replace hx613_10 := (HB.out.cell (World.block_lt_of_cell? w _ hx613_10)).trans hx613_10
                      replace hx613_11 := (HB.out.cell (World.block_lt_of_cell? w _ hx613_11)).trans hx613_11
                      replace hx613_12 := (HB.out.cell (World.block_lt_of_cell? w _ hx613_12)).trans hx613_12
                      replace hx613_13 := (HB.out.cell (World.block_lt_of_cell? w _ hx613_13)).trans hx613_13
                      replace p613 := eq_true p613
                      replace q613 := eq_true q613
                      try go_wp2_with (first | ((with_reducible refine gate_dst (N := 4) rfl ?_); refine box_event ?hg (N := 4) ?hd (cs := tk14 0 0 0 0 false 0 0 0 0 0 0 0 0 0) (t := 24) ?hr ?_; (case hd => rfl); (case hg => rfl); (case hr => first | (go_simp; done) | (go_simp; rfl)); intro gb614 hg w17 hbox hb; have n0_ := Aside0.mk (below_step (by repeat (first | (with_reducible first | exact HB.out | apply below_alloc | apply pw_below_drewN | apply below_drew1) | exact HB.out)) hb); have n1_ := Aside0.mk (hbox); have n2_ := Aside0.mk ((by rw [hg]; exact (below_size (by repeat (first | (with_reducible first | exact HB.out | apply below_alloc | apply pw_below_drewN | apply below_drew1) | exact HB.out))) : w.heap.size ≤ gb614)); have n3_ := Aside0.mk ((by rw [hg]; exact (below_size (by repeat (first | (with_reducible first | exact HB.out | apply below_alloc | apply pw_below_drewN | apply below_drew1) | exact HB.out))) : w.heap.size ≤ gb614)); clear HB; have HB := n0_; have BK614 := n1_; have GW614 := n2_; have GE614 := n3_; clear n0_ n1_ n2_ n3_; clear hb hbox hg; obtain ⟨hcz18_0, hcz18_1, hcz18_2, hcz18_3, hcz18_4, hcz18_5, hcz18_6, hcz18_7, hcz18_8, hcz18_9, hcz18_10, hcz18_11, hcz18_12, hcz18_13⟩ := cz14 BK614.out; have hfz18_0 := blk_frozen BK614.out))
                      have n0_ : Aside0 (((((((((((((((w17.setCell ⟨gb614, 0, none⟩ (.int .i64 ((rd_T24 l0 x7_1).f0))).setCell ⟨gb614, 1, none⟩ (.int .i64 ((rd_T24 l0 x7_1).f1))).setCell ⟨gb614, 2, none⟩ (.int .i64 ((rd_T24 l0 x7_1).f2))).setCell ⟨gb614, 3, none⟩ (.int .i64 ((rd_T24 l0 x7_1).f3))).setCell ⟨gb614, 4, none⟩ (.bool ((rd_T24 l0 x7_1).f4))).setCell ⟨gb614, 5, none⟩ (.int .i64 ((rd_T24 l0 x7_1).f5))).setCell ⟨gb614, 6, none⟩ (.int .i64 ((rd_T24 l0 x7_1).f6))).setCell ⟨gb614, 7, none⟩ (.int .i64 ((rd_T24 l0 x7_1).f7))).setCell ⟨gb614, 8, none⟩ (.int .i64 ((rd_T24 l0 x7_1).f8))).setCell ⟨gb614, 9, none⟩ (.int .i64 ((rd_T24 l0 x7_1).f9))).setCell ⟨gb614, 10, none⟩ (.int .i64 ((rd_T24 l0 x7_1).f10))).setCell ⟨gb614, 11, none⟩ (.int .i64 ((rd_T24 l0 x7_1).f11))).setCell ⟨gb614, 12, none⟩ (.int .i64 ((rd_T24 l0 x7_1).f12))).setCell ⟨gb614, 13, none⟩ (.int .i64 ((rd_T24 l0 x7_1).f13))).heap[gb614]? = some (.cells #[.int .i64 ((rd_T24 l0 x7_1).f0), .int .i64 ((rd_T24 l0 x7_1).f1), .int .i64 ((rd_T24 l0 x7_1).f2), .int .i64 ((rd_T24 l0 x7_1).f3), .bool ((rd_T24 l0 x7_1).f4), .int .i64 ((rd_T24 l0 x7_1).f5), .int .i64 ((rd_T24 l0 x7_1).f6), .int .i64 ((rd_T24 l0 x7_1).f7), .int .i64 ((rd_T24 l0 x7_1).f8), .int .i64 ((rd_T24 l0 x7_1).f9), .int .i64 ((rd_T24 l0 x7_1).f10), .int .i64 ((rd_T24 l0 x7_1).f11), .int .i64 ((rd_T24 l0 x7_1).f12), .int .i64 ((rd_T24 l0 x7_1).f13)] 24 (0, 0))) := ⟨by (with_reducible repeat (first | refine blk_drewN ?_ _ | refine blk_drew ?_ | refine blk_alloc ?_ _)); refine blk_put (cs := tk14 ((rd_T24 l0 x7_1).f0) ((rd_T24 l0 x7_1).f1) ((rd_T24 l0 x7_1).f2) ((rd_T24 l0 x7_1).f3) ((rd_T24 l0 x7_1).f4) ((rd_T24 l0 x7_1).f5) ((rd_T24 l0 x7_1).f6) ((rd_T24 l0 x7_1).f7) ((rd_T24 l0 x7_1).f8) ((rd_T24 l0 x7_1).f9) ((rd_T24 l0 x7_1).f10) ((rd_T24 l0 x7_1).f11) ((rd_T24 l0 x7_1).f12) 0) ?_ 13 _ rfl; (with_reducible repeat (first | refine blk_drewN ?_ _ | refine blk_drew ?_ | refine blk_alloc ?_ _)); refine blk_put (cs := tk14 ((rd_T24 l0 x7_1).f0) ((rd_T24 l0 x7_1).f1) ((rd_T24 l0 x7_1).f2) ((rd_T24 l0 x7_1).f3) ((rd_T24 l0 x7_1).f4) ((rd_T24 l0 x7_1).f5) ((rd_T24 l0 x7_1).f6) ((rd_T24 l0 x7_1).f7) ((rd_T24 l0 x7_1).f8) ((rd_T24 l0 x7_1).f9) ((rd_T24 l0 x7_1).f10) ((rd_T24 l0 x7_1).f11) 0 0) ?_ 12 _ rfl; (with_reducible repeat (first | refine blk_drewN ?_ _ | refine blk_drew ?_ | refine blk_alloc ?_ _)); refine blk_put (cs := tk14 ((rd_T24 l0 x7_1).f0) ((rd_T24 l0 x7_1).f1) ((rd_T24 l0 x7_1).f2) ((rd_T24 l0 x7_1).f3) ((rd_T24 l0 x7_1).f4) ((rd_T24 l0 x7_1).f5) ((rd_T24 l0 x7_1).f6) ((rd_T24 l0 x7_1).f7) ((rd_T24 l0 x7_1).f8) ((rd_T24 l0 x7_1).f9) ((rd_T24 l0 x7_1).f10) 0 0 0) ?_ 11 _ rfl; (with_reducible repeat (first | refine blk_drewN ?_ _ | refine blk_drew ?_ | refine blk_alloc ?_ _)); refine blk_put (cs := tk14 ((rd_T24 l0 x7_1).f0) ((rd_T24 l0 x7_1).f1) ((rd_T24 l0 x7_1).f2) ((rd_T24 l0 x7_1).f3) ((rd_T24 l0 x7_1).f4) ((rd_T24 l0 x7_1).f5) ((rd_T24 l0 x7_1).f6) ((rd_T24 l0 x7_1).f7) ((rd_T24 l0 x7_1).f8) ((rd_T24 l0 x7_1).f9) 0 0 0 0) ?_ 10 _ rfl; (with_reducible repeat (first | refine blk_drewN ?_ _ | refine blk_drew ?_ | refine blk_alloc ?_ _)); refine blk_put (cs := tk14 ((rd_T24 l0 x7_1).f0) ((rd_T24 l0 x7_1).f1) ((rd_T24 l0 x7_1).f2) ((rd_T24 l0 x7_1).f3) ((rd_T24 l0 x7_1).f4) ((rd_T24 l0 x7_1).f5) ((rd_T24 l0 x7_1).f6) ((rd_T24 l0 x7_1).f7) ((rd_T24 l0 x7_1).f8) 0 0 0 0 0) ?_ 9 _ rfl; (with_reducible repeat (first | refine blk_drewN ?_ _ | refine blk_drew ?_ | refine blk_alloc ?_ _)); refine blk_put (cs := tk14 ((rd_T24 l0 x7_1).f0) ((rd_T24 l0 x7_1).f1) ((rd_T24 l0 x7_1).f2) ((rd_T24 l0 x7_1).f3) ((rd_T24 l0 x7_1).f4) ((rd_T24 l0 x7_1).f5) ((rd_T24 l0 x7_1).f6) ((rd_T24 l0 x7_1).f7) 0 0 0 0 0 0) ?_ 8 _ rfl; (with_reducible repeat (first | refine blk_drewN ?_ _ | refine blk_drew ?_ | refine blk_alloc ?_ _)); refine blk_put (cs := tk14 ((rd_T24 l0 x7_1).f0) ((rd_T24 l0 x7_1).f1) ((rd_T24 l0 x7_1).f2) ((rd_T24 l0 x7_1).f3) ((rd_T24 l0 x7_1).f4) ((rd_T24 l0 x7_1).f5) ((rd_T24 l0 x7_1).f6) 0 0 0 0 0 0 0) ?_ 7 _ rfl; (with_reducible repeat (first | refine blk_drewN ?_ _ | refine blk_drew ?_ | refine blk_alloc ?_ _)); refine blk_put (cs := tk14 ((rd_T24 l0 x7_1).f0) ((rd_T24 l0 x7_1).f1) ((rd_T24 l0 x7_1).f2) ((rd_T24 l0 x7_1).f3) ((rd_T24 l0 x7_1).f4) ((rd_T24 l0 x7_1).f5) 0 0 0 0 0 0 0 0) ?_ 6 _ rfl; (with_reducible repeat (first | refine blk_drewN ?_ _ | refine blk_drew ?_ | refine blk_alloc ?_ _)); refine blk_put (cs := tk14 ((rd_T24 l0 x7_1).f0) ((rd_T24 l0 x7_1).f1) ((rd_T24 l0 x7_1).f2) ((rd_T24 l0 x7_1).f3) ((rd_T24 l0 x7_1).f4) 0 0 0 0 0 0 0 0 0) ?_ 5 _ rfl; (with_reducible repeat (first | refine blk_drewN ?_ _ | refine blk_drew ?_ | refine blk_alloc ?_ _)); refine blk_put (cs := tk14 ((rd_T24 l0 x7_1).f0) ((rd_T24 l0 x7_1).f1) ((rd_T24 l0 x7_1).f2) ((rd_T24 l0 x7_1).f3) false 0 0 0 0 0 0 0 0 0) ?_ 4 _ rfl; (with_reducible repeat (first | refine blk_drewN ?_ _ | refine blk_drew ?_ | refine blk_alloc ?_ _)); refine blk_put (cs := tk14 ((rd_T24 l0 x7_1).f0) ((rd_T24 l0 x7_1).f1) ((rd_T24 l0 x7_1).f2) 0 false 0 0 0 0 0 0 0 0 0) ?_ 3 _ rfl; (with_reducible repeat (first | refine blk_drewN ?_ _ | refine blk_drew ?_ | refine blk_alloc ?_ _)); refine blk_put (cs := tk14 ((rd_T24 l0 x7_1).f0) ((rd_T24 l0 x7_1).f1) 0 0 false 0 0 0 0 0 0 0 0 0) ?_ 2 _ rfl; (with_reducible repeat (first | refine blk_drewN ?_ _ | refine blk_drew ?_ | refine blk_alloc ?_ _)); refine blk_put (cs := tk14 ((rd_T24 l0 x7_1).f0) 0 0 0 false 0 0 0 0 0 0 0 0 0) ?_ 1 _ rfl; (with_reducible repeat (first | refine blk_drewN ?_ _ | refine blk_drew ?_ | refine blk_alloc ?_ _)); refine blk_put (cs := tk14 0 0 0 0 false 0 0 0 0 0 0 0 0 0) ?_ 0 _ rfl; (with_reducible repeat (first | refine blk_drewN ?_ _ | refine blk_drew ?_ | refine blk_alloc ?_ _)); exact BK614.out⟩
                      have n1_ : Aside0 (Below w.heap.size w ((((((((((((((w17.setCell ⟨gb614, 0, none⟩ (.int .i64 ((rd_T24 l0 x7_1).f0))).setCell ⟨gb614, 1, none⟩ (.int .i64 ((rd_T24 l0 x7_1).f1))).setCell ⟨gb614, 2, none⟩ (.int .i64 ((rd_T24 l0 x7_1).f2))).setCell ⟨gb614, 3, none⟩ (.int .i64 ((rd_T24 l0 x7_1).f3))).setCell ⟨gb614, 4, none⟩ (.bool ((rd_T24 l0 x7_1).f4))).setCell ⟨gb614, 5, none⟩ (.int .i64 ((rd_T24 l0 x7_1).f5))).setCell ⟨gb614, 6, none⟩ (.int .i64 ((rd_T24 l0 x7_1).f6))).setCell ⟨gb614, 7, none⟩ (.int .i64 ((rd_T24 l0 x7_1).f7))).setCell ⟨gb614, 8, none⟩ (.int .i64 ((rd_T24 l0 x7_1).f8))).setCell ⟨gb614, 9, none⟩ (.int .i64 ((rd_T24 l0 x7_1).f9))).setCell ⟨gb614, 10, none⟩ (.int .i64 ((rd_T24 l0 x7_1).f10))).setCell ⟨gb614, 11, none⟩ (.int .i64 ((rd_T24 l0 x7_1).f11))).setCell ⟨gb614, 12, none⟩ (.int .i64 ((rd_T24 l0 x7_1).f12))).setCell ⟨gb614, 13, none⟩ (.int .i64 ((rd_T24 l0 x7_1).f13)))) := ⟨by repeat (first | (with_reducible first | exact HB.out | apply below_alloc | apply pw_below_drewN | apply below_drew1 | refine below_set ?_ GE614.out) | exact HB.out)⟩
                      (try clear BK614)
                      (try clear HB)
                      generalize ((((((((((((((w17.setCell ⟨gb614, 0, none⟩ (.int .i64 ((rd_T24 l0 x7_1).f0))).setCell ⟨gb614, 1, none⟩ (.int .i64 ((rd_T24 l0 x7_1).f1))).setCell ⟨gb614, 2, none⟩ (.int .i64 ((rd_T24 l0 x7_1).f2))).setCell ⟨gb614, 3, none⟩ (.int .i64 ((rd_T24 l0 x7_1).f3))).setCell ⟨gb614, 4, none⟩ (.bool ((rd_T24 l0 x7_1).f4))).setCell ⟨gb614, 5, none⟩ (.int .i64 ((rd_T24 l0 x7_1).f5))).setCell ⟨gb614, 6, none⟩ (.int .i64 ((rd_T24 l0 x7_1).f6))).setCell ⟨gb614, 7, none⟩ (.int .i64 ((rd_T24 l0 x7_1).f7))).setCell ⟨gb614, 8, none⟩ (.int .i64 ((rd_T24 l0 x7_1).f8))).setCell ⟨gb614, 9, none⟩ (.int .i64 ((rd_T24 l0 x7_1).f9))).setCell ⟨gb614, 10, none⟩ (.int .i64 ((rd_T24 l0 x7_1).f10))).setCell ⟨gb614, 11, none⟩ (.int .i64 ((rd_T24 l0 x7_1).f11))).setCell ⟨gb614, 12, none⟩ (.int .i64 ((rd_T24 l0 x7_1).f12))).setCell ⟨gb614, 13, none⟩ (.int .i64 ((rd_T24 l0 x7_1).f13))) = w19 at n0_ n1_ ⊢
                      have BK614 := n0_
                      have HB := n1_
                      clear n0_ n1_
                      have n0_ := Aside0.mk (blk_drew BK614.out)
                      have n1_ := Aside0.mk (below_drew1 HB.out)
                      clear BK614
                      clear HB
                      have BK614 := n0_
                      have HB := n1_
                      clear n0_ n1_
                      have p616 : 0 ≤ ((ji8) : Int) := of_decide_eq_true (by first | (with_reducible assumption) | assumption)
                      have q616 : (ji8) < (l0.length : Int) := of_decide_eq_true (by first | (with_reducible assumption) | assumption)
                      obtain ⟨ad616, e616, hx616_0, hx616_1, hx616_2, hx616_3, hx616_4, hx616_5, hx616_6, hx616_7, hx616_8, hx616_9, hx616_10, hx616_11, hx616_12, hx616_13⟩ := at_T24 HR0.out (ji8) p616 q616
                      have hw616_13 := hx616_13
                      have hw616_12 := hx616_12
                      have hw616_11 := hx616_11
                      have hw616_10 := hx616_10
                      have hw616_9 := hx616_9
                      have hw616_8 := hx616_8
                      have hw616_7 := hx616_7
                      have hw616_6 := hx616_6
                      have hw616_5 := hx616_5
                      have hw616_4 := hx616_4
                      have hw616_3 := hx616_3
                      have hw616_2 := hx616_2
                      have hw616_1 := hx616_1
                      have hw616_0 := hx616_0
                      obtain rfl : ad613 = ad616 := (by injection e616)
                      replace hx616_0 := (HB.out.cell (World.block_lt_of_cell? w _ hx616_0)).trans hx616_0
                      replace hx616_1 := (HB.out.cell (World.block_lt_of_cell? w _ hx616_1)).trans hx616_1
                      replace hx616_2 := (HB.out.cell (World.block_lt_of_cell? w _ hx616_2)).trans hx616_2
                      replace hx616_3 := (HB.out.cell (World.block_lt_of_cell? w _ hx616_3)).trans hx616_3
                      replace hx616_4 := (HB.out.cell (World.block_lt_of_cell? w _ hx616_4)).trans hx616_4
                      replace hx616_5 := (HB.out.cell (World.block_lt_of_cell? w _ hx616_5)).trans hx616_5
                      replace hx616_6 := (HB.out.cell (World.block_lt_of_cell? w _ hx616_6)).trans hx616_6
                      replace hx616_7 := (HB.out.cell (World.block_lt_of_cell? w _ hx616_7)).trans hx616_7
                      replace hx616_8 := (HB.out.cell (World.block_lt_of_cell? w _ hx616_8)).trans hx616_8
                      replace hx616_9 := (HB.out.cell (World.block_lt_of_cell? w _ hx616_9)).trans hx616_9
                      replace hx616_10 := (HB.out.cell (World.block_lt_of_cell? w _ hx616_10)).trans hx616_10
                      replace hx616_11 := (HB.out.cell (World.block_lt_of_cell? w _ hx616_11)).trans hx616_11
                      replace hx616_12 := (HB.out.cell (World.block_lt_of_cell? w _ hx616_12)).trans hx616_12
                      replace hx616_13 := (HB.out.cell (World.block_lt_of_cell? w _ hx616_13)).trans hx616_13
                      replace p616 := eq_true p616
                      replace q616 := eq_true q616
                      refine start_ (n := 18) (S := fun w' => w'.cell? ⟨gb614, 0, none⟩ = some (.int .i64 ((rd_T24 l0 x7_1).f0)) ∧ w'.cell? ⟨gb614, 1, none⟩ = some (.int .i64 ((rd_T24 l0 x7_1).f1)) ∧ w'.cell? ⟨gb614, 2, none⟩ = some (.int .i64 ((rd_T24 l0 x7_1).f2)) ∧ w'.cell? ⟨gb614, 3, none⟩ = some (.int .i64 ((rd_T24 l0 x7_1).f3)) ∧ w'.cell? ⟨gb614, 4, none⟩ = some (.bool ((rd_T24 l0 x7_1).f4)) ∧ w'.cell? ⟨gb614, 5, none⟩ = some (.int .i64 ((rd_T24 l0 x7_1).f5)) ∧ w'.cell? ⟨gb614, 6, none⟩ = some (.int .i64 ((rd_T24 l0 x7_1).f6)) ∧ w'.cell? ⟨gb614, 7, none⟩ = some (.int .i64 ((rd_T24 l0 x7_1).f7)) ∧ w'.cell? ⟨gb614, 8, none⟩ = some (.int .i64 ((rd_T24 l0 x7_1).f8)) ∧ w'.cell? ⟨gb614, 9, none⟩ = some (.int .i64 ((rd_T24 l0 x7_1).f9)) ∧ w'.cell? ⟨gb614, 10, none⟩ = some (.int .i64 ((rd_T24 l0 x7_1).f10)) ∧ w'.cell? ⟨gb614, 11, none⟩ = some (.int .i64 ((rd_T24 l0 x7_1).f11)) ∧ w'.cell? ⟨gb614, 12, none⟩ = some (.int .i64 ((rd_T24 l0 x7_1).f12)) ∧ w'.cell? ⟨gb614, 13, none⟩ = some (.int .i64 ((rd_T24 l0 x7_1).f13)) ∧ w'.cell? (ad613.add (((ji8)).toNat * 14)) = some (.int .i64 ((rd_T24 l0 (ji8)).f0)) ∧ w'.cell? ⟨(ad613.add (((ji8)).toNat * 14)).block, (ad613.add (((ji8)).toNat * 14)).off + 1, none⟩ = some (.int .i64 ((rd_T24 l0 (ji8)).f1)) ∧ w'.cell? ⟨(ad613.add (((ji8)).toNat * 14)).block, (ad613.add (((ji8)).toNat * 14)).off + 2, none⟩ = some (.int .i64 ((rd_T24 l0 (ji8)).f2)) ∧ w'.cell? ⟨(ad613.add (((ji8)).toNat * 14)).block, (ad613.add (((ji8)).toNat * 14)).off + 3, none⟩ = some (.int .i64 ((rd_T24 l0 (ji8)).f3)) ∧ w'.cell? ⟨(ad613.add (((ji8)).toNat * 14)).block, (ad613.add (((ji8)).toNat * 14)).off + 4, none⟩ = some (.bool ((rd_T24 l0 (ji8)).f4)) ∧ w'.cell? ⟨(ad613.add (((ji8)).toNat * 14)).block, (ad613.add (((ji8)).toNat * 14)).off + 5, none⟩ = some (.int .i64 ((rd_T24 l0 (ji8)).f5)) ∧ w'.cell? ⟨(ad613.add (((ji8)).toNat * 14)).block, (ad613.add (((ji8)).toNat * 14)).off + 6, none⟩ = some (.int .i64 ((rd_T24 l0 (ji8)).f6)) ∧ w'.cell? ⟨(ad613.add (((ji8)).toNat * 14)).block, (ad613.add (((ji8)).toNat * 14)).off + 7, none⟩ = some (.int .i64 ((rd_T24 l0 (ji8)).f7)) ∧ w'.cell? ⟨(ad613.add (((ji8)).toNat * 14)).block, (ad613.add (((ji8)).toNat * 14)).off + 8, none⟩ = some (.int .i64 ((rd_T24 l0 (ji8)).f8)) ∧ w'.cell? ⟨(ad613.add (((ji8)).toNat * 14)).block, (ad613.add (((ji8)).toNat * 14)).off + 9, none⟩ = some (.int .i64 ((rd_T24 l0 (ji8)).f9)) ∧ w'.cell? ⟨(ad613.add (((ji8)).toNat * 14)).block, (ad613.add (((ji8)).toNat * 14)).off + 10, none⟩ = some (.int .i64 ((rd_T24 l0 (ji8)).f10)) ∧ w'.cell? ⟨(ad613.add (((ji8)).toNat * 14)).block, (ad613.add (((ji8)).toNat * 14)).off + 11, none⟩ = some (.int .i64 ((rd_T24 l0 (ji8)).f11)) ∧ w'.cell? ⟨(ad613.add (((ji8)).toNat * 14)).block, (ad613.add (((ji8)).toNat * 14)).off + 12, none⟩ = some (.int .i64 ((rd_T24 l0 (ji8)).f12)) ∧ w'.cell? ⟨(ad613.add (((ji8)).toNat * 14)).block, (ad613.add (((ji8)).toNat * 14)).off + 13, none⟩ = some (.int .i64 ((rd_T24 l0 (ji8)).f13))) (ds := []) #[false, false, false, false, false, false, false, false, false, false, false, false, false, false, false, false, false, false] (by kernel_rfl) rfl rfl ⟨(blk_cell BK614.out 0).trans rfl, (blk_cell BK614.out 1).trans rfl, (blk_cell BK614.out 2).trans rfl, (blk_cell BK614.out 3).trans rfl, (blk_cell BK614.out 4).trans rfl, (blk_cell BK614.out 5).trans rfl, (blk_cell BK614.out 6).trans rfl, (blk_cell BK614.out 7).trans rfl, (blk_cell BK614.out 8).trans rfl, (blk_cell BK614.out 9).trans rfl, (blk_cell BK614.out 10).trans rfl, (blk_cell BK614.out 11).trans rfl, (blk_cell BK614.out 12).trans rfl, (blk_cell BK614.out 13).trans rfl, ((HB.out.cell (World.block_lt_of_cell? w _ hw616_0)).trans hw616_0), ((HB.out.cell (World.block_lt_of_cell? w _ hw616_1)).trans hw616_1), ((HB.out.cell (World.block_lt_of_cell? w _ hw616_2)).trans hw616_2), ((HB.out.cell (World.block_lt_of_cell? w _ hw616_3)).trans hw616_3), ((HB.out.cell (World.block_lt_of_cell? w _ hw616_4)).trans hw616_4), ((HB.out.cell (World.block_lt_of_cell? w _ hw616_5)).trans hw616_5), ((HB.out.cell (World.block_lt_of_cell? w _ hw616_6)).trans hw616_6), ((HB.out.cell (World.block_lt_of_cell? w _ hw616_7)).trans hw616_7), ((HB.out.cell (World.block_lt_of_cell? w _ hw616_8)).trans hw616_8), ((HB.out.cell (World.block_lt_of_cell? w _ hw616_9)).trans hw616_9), ((HB.out.cell (World.block_lt_of_cell? w _ hw616_10)).trans hw616_10), ((HB.out.cell (World.block_lt_of_cell? w _ hw616_11)).trans hw616_11), ((HB.out.cell (World.block_lt_of_cell? w _ hw616_12)).trans hw616_12), ((HB.out.cell (World.block_lt_of_cell? w _ hw616_13)).trans hw616_13)⟩ (fun hHeld => ?_); refine with_tabW impl_TasksOk.tab4 impl_TasksOk.bits4 (fun HT_ HW_ => ?_)
                      generalize w19.drew = w20 at BK614 HB hx616_0 hx616_1 hx616_10 hx616_11 hx616_12 hx616_13 hx616_2 hx616_3 hx616_4 hx616_5 hx616_6 hx616_7 hx616_8 hx616_9 hHeld ⊢
                      refine take_ (i := 0) (N := some 12) (v := ?_) (a' := ?_) #[true, false, false, false, false, false, false, false, false, false, false, false, false, false, false, false, false, false] rfl rfl (take_ofW HT_.out HW_.out (by kernel_rfl)) (fun _ _ _ h => h) (Or.inl ⟨by rfl, ?_⟩) hHeld ?_ ?_
                      rotate_left
                      · rintro w' ⟨s0, s1, s2, s3, s4, s5, s6, s7, s8, s9, s10, s11, s12, s13, s14, s15, s16, s17, s18, s19, s20, s21, s22, s23, s24, s25, s26, s27⟩
                        go_simp
                        with_reducible rfl
                      rotate_left
                      · simp only [Act.put, List.setIfInBounds_toArray, List.set_cons_zero, List.set_cons_succ, i64_w, i32_w]
                        rfl
                      refine one_ (i := 1) (N := some 13) #[true, true, false, false, false, false, false, false, false, false, false, false, false, false, false, false, false, false] rfl rfl (one_of HT_.out (by kernel_rfl)) (by decide) (fun K hK => ?_)
                      refine goes_ Try.func29 (by kernel_rfl) rfl #[.agg #[.int .i64 ((rd_T24 l0 x7_1).f0), .int .i64 ((rd_T24 l0 x7_1).f1), .int .i64 ((rd_T24 l0 x7_1).f2), .int .i64 ((rd_T24 l0 x7_1).f3), .bool ((rd_T24 l0 x7_1).f4), .int .i64 ((rd_T24 l0 x7_1).f5), .int .i64 ((rd_T24 l0 x7_1).f6), .int .i64 ((rd_T24 l0 x7_1).f7), .int .i64 ((rd_T24 l0 x7_1).f8), .int .i64 ((rd_T24 l0 x7_1).f9), .int .i64 ((rd_T24 l0 x7_1).f10), .int .i64 ((rd_T24 l0 x7_1).f11), .int .i64 ((rd_T24 l0 x7_1).f12), .int .i64 ((rd_T24 l0 x7_1).f13)]] (by rfl) rfl rfl (by (try simp only [List.map_toArray, List.map_cons, List.map_nil]); first | done | rfl | (simp only [List.length_drop, List.length_take]; rfl)) ?_
                      with_reducible refine (impl_TaskOk.calls ((rd_T24 l0 x7_1).f0) ((rd_T24 l0 x7_1).f1) ((rd_T24 l0 x7_1).f2) ((rd_T24 l0 x7_1).f3) ((rd_T24 l0 x7_1).f4) ((rd_T24 l0 x7_1).f5) ((rd_T24 l0 x7_1).f6) ((rd_T24 l0 x7_1).f7) ((rd_T24 l0 x7_1).f8) ((rd_T24 l0 x7_1).f9) ((rd_T24 l0 x7_1).f10) ((rd_T24 l0 x7_1).f11) ((rd_T24 l0 x7_1).f12) ((rd_T24 l0 x7_1).f13) true _ A5.out).mono ?_
                      rintro e w21 ⟨rfl, hb⟩
                      refine ⟨_, rfl, ?_⟩
                      have n0_ := Aside0.mk (blk_below (g := gb614) (o := .cells (tk14 ((rd_T24 l0 x7_1).f0) ((rd_T24 l0 x7_1).f1) ((rd_T24 l0 x7_1).f2) ((rd_T24 l0 x7_1).f3) ((rd_T24 l0 x7_1).f4) ((rd_T24 l0 x7_1).f5) ((rd_T24 l0 x7_1).f6) ((rd_T24 l0 x7_1).f7) ((rd_T24 l0 x7_1).f8) ((rd_T24 l0 x7_1).f9) ((rd_T24 l0 x7_1).f10) ((rd_T24 l0 x7_1).f11) ((rd_T24 l0 x7_1).f12) ((rd_T24 l0 x7_1).f13)) 24 (0, 0)) (by (with_reducible repeat (first | refine blk_drewN ?_ _ | refine blk_drew ?_ | refine blk_alloc ?_ _)); exact BK614.out) hb)
                      have n1_ := Aside0.mk (below_step (by repeat (first | (with_reducible first | exact HB.out | apply below_alloc | apply pw_below_drewN | apply below_drew1 | refine below_set ?_ GE614.out) | exact HB.out)) hb)
                      clear BK614
                      clear HB
                      have BK614 := n0_
                      have HB := n1_
                      clear n0_ n1_
                      (try clear hb)
                      (try clear hb2)
                      (try clear hk)
                      (try clear hi)
                      refine hK.out _ _ ⟨(blk_cell BK614.out 0).trans rfl, (blk_cell BK614.out 1).trans rfl, (blk_cell BK614.out 2).trans rfl, (blk_cell BK614.out 3).trans rfl, (blk_cell BK614.out 4).trans rfl, (blk_cell BK614.out 5).trans rfl, (blk_cell BK614.out 6).trans rfl, (blk_cell BK614.out 7).trans rfl, (blk_cell BK614.out 8).trans rfl, (blk_cell BK614.out 9).trans rfl, (blk_cell BK614.out 10).trans rfl, (blk_cell BK614.out 11).trans rfl, (blk_cell BK614.out 12).trans rfl, (blk_cell BK614.out 13).trans rfl, ((HB.out.cell (World.block_lt_of_cell? w _ hw616_0)).trans hw616_0), ((HB.out.cell (World.block_lt_of_cell? w _ hw616_1)).trans hw616_1), ((HB.out.cell (World.block_lt_of_cell? w _ hw616_2)).trans hw616_2), ((HB.out.cell (World.block_lt_of_cell? w _ hw616_3)).trans hw616_3), ((HB.out.cell (World.block_lt_of_cell? w _ hw616_4)).trans hw616_4), ((HB.out.cell (World.block_lt_of_cell? w _ hw616_5)).trans hw616_5), ((HB.out.cell (World.block_lt_of_cell? w _ hw616_6)).trans hw616_6), ((HB.out.cell (World.block_lt_of_cell? w _ hw616_7)).trans hw616_7), ((HB.out.cell (World.block_lt_of_cell? w _ hw616_8)).trans hw616_8), ((HB.out.cell (World.block_lt_of_cell? w _ hw616_9)).trans hw616_9), ((HB.out.cell (World.block_lt_of_cell? w _ hw616_10)).trans hw616_10), ((HB.out.cell (World.block_lt_of_cell? w _ hw616_11)).trans hw616_11), ((HB.out.cell (World.block_lt_of_cell? w _ hw616_12)).trans hw616_12), ((HB.out.cell (World.block_lt_of_cell? w _ hw616_13)).trans hw616_13)⟩ (fun hHeld => ?_)
                      clear hK K
                      refine norm_ (a' := ?_) ?_ ?_
                      rotate_left
                      · show Act.put _ (some 13) _ = _
                        simp only [Act.put, List.setIfInBounds_toArray, List.set_cons_zero, List.set_cons_succ, i64_w, i32_w]
                        rfl
                      refine pure_ (i := 2) (N := some 14) (v := ?_) (a' := ?_) #[true, true, true, false, false, false, false, false, false, false, false, false, false, false, false, false, false, false] rfl rfl (any_of HT_.out (by kernel_rfl)) (fun _ _ _ h => h) (Or.inl ⟨by rfl, ?_⟩) ?_ ?_
                      rotate_left
                      · intro w'
                        go_simp
                        with_reducible rfl
                      rotate_left
                      · simp only [Act.put, List.setIfInBounds_toArray, List.set_cons_zero, List.set_cons_succ, i64_w, i32_w]
                        rfl
                      refine pure_ (i := 3) (N := some 15) (v := ?_) (a' := ?_) #[true, true, true, true, false, false, false, false, false, false, false, false, false, false, false, false, false, false] rfl rfl (any_of HT_.out (by kernel_rfl)) (fun _ _ _ h => h) (Or.inl ⟨by rfl, ?_⟩) ?_ ?_
                      rotate_left
                      · intro w'
                        go_simp
                        with_reducible rfl
                      rotate_left
                      · simp only [Act.put, List.setIfInBounds_toArray, List.set_cons_zero, List.set_cons_succ, i64_w, i32_w]
                        rfl
                      refine pure_ (i := 4) (N := some 16) (v := ?_) (a' := ?_) #[true, true, true, true, true, false, false, false, false, false, false, false, false, false, false, false, false, false] rfl rfl (any_of HT_.out (by kernel_rfl)) (fun _ _ _ h => h) (Or.inl ⟨by rfl, ?_⟩) ?_ ?_
                      rotate_left
                      · intro w'
                        go_simp
                        with_reducible rfl
                      rotate_left
                      · simp only [Act.put, List.setIfInBounds_toArray, List.set_cons_zero, List.set_cons_succ, i64_w, i32_w]
                        rfl
                      refine pure_ (i := 5) (N := some 17) (v := ?_) (a' := ?_) #[true, true, true, true, true, true, false, false, false, false, false, false, false, false, false, false, false, false] rfl rfl (any_of HT_.out (by kernel_rfl)) (fun _ _ _ h => h) (Or.inl ⟨by rfl, ?_⟩) ?_ ?_
                      rotate_left
                      · intro w'
                        go_simp
                        with_reducible rfl
                      rotate_left
                      · simp only [Act.put, List.setIfInBounds_toArray, List.set_cons_zero, List.set_cons_succ, i64_w, i32_w]
                        rfl
                      refine pure_ (i := 6) (N := some 18) (v := ?_) (a' := ?_) #[true, true, true, true, true, true, true, false, false, false, false, false, false, false, false, false, false, false] rfl rfl (any_of HT_.out (by kernel_rfl)) (fun _ _ _ h => h) (Or.inl ⟨by rfl, ?_⟩) ?_ ?_
                      rotate_left
                      · intro w'
                        go_simp
                        with_reducible rfl
                      rotate_left
                      · simp only [Act.put, List.setIfInBounds_toArray, List.set_cons_zero, List.set_cons_succ, i64_w, i32_w]
                        rfl
                      refine pure_ (i := 7) (N := some 19) (v := ?_) (a' := ?_) #[true, true, true, true, true, true, true, true, false, false, false, false, false, false, false, false, false, false] rfl rfl (any_of HT_.out (by kernel_rfl)) (fun _ _ _ h => h) (Or.inl ⟨by rfl, ?_⟩) ?_ ?_
                      rotate_left
                      · intro w'
                        go_simp
                        with_reducible rfl
                      rotate_left
                      · simp only [Act.put, List.setIfInBounds_toArray, List.set_cons_zero, List.set_cons_succ, i64_w, i32_w]
                        rfl
                      refine pure_ (i := 8) (N := some 20) (v := ?_) (a' := ?_) #[true, true, true, true, true, true, true, true, true, false, false, false, false, false, false, false, false, false] rfl rfl (any_of HT_.out (by kernel_rfl)) (fun _ _ _ h => h) (Or.inl ⟨by rfl, ?_⟩) ?_ ?_
                      rotate_left
                      · intro w'
                        go_simp
                        with_reducible rfl
                      rotate_left
                      · simp only [Act.put, List.setIfInBounds_toArray, List.set_cons_zero, List.set_cons_succ, i64_w, i32_w]
                        rfl
                      refine pure_ (i := 9) (N := some 21) (v := ?_) (a' := ?_) #[true, true, true, true, true, true, true, true, true, true, false, false, false, false, false, false, false, false] rfl rfl (any_of HT_.out (by kernel_rfl)) (fun _ _ _ h => h) (Or.inl ⟨by rfl, ?_⟩) ?_ ?_
                      rotate_left
                      · intro w'
                        go_simp
                        with_reducible rfl
                      rotate_left
                      · simp only [Act.put, List.setIfInBounds_toArray, List.set_cons_zero, List.set_cons_succ, i64_w, i32_w]
                        rfl
                      refine pure_ (i := 10) (N := some 22) (v := ?_) (a' := ?_) #[true, true, true, true, true, true, true, true, true, true, true, false, false, false, false, false, false, false] rfl rfl (any_of HT_.out (by kernel_rfl)) (fun _ _ _ h => h) (Or.inl ⟨by rfl, ?_⟩) ?_ ?_
                      rotate_left
                      · intro w'
                        go_simp
                        with_reducible rfl
                      rotate_left
                      · simp only [Act.put, List.setIfInBounds_toArray, List.set_cons_zero, List.set_cons_succ, i64_w, i32_w]
                        rfl
                      refine pure_ (i := 11) (N := some 23) (v := ?_) (a' := ?_) #[true, true, true, true, true, true, true, true, true, true, true, true, false, false, false, false, false, false] rfl rfl (any_of HT_.out (by kernel_rfl)) (fun _ _ _ h => h) (Or.inl ⟨by rfl, ?_⟩) ?_ ?_
                      rotate_left
                      · intro w'
                        go_simp
                        with_reducible rfl
                      rotate_left
                      · simp only [Act.put, List.setIfInBounds_toArray, List.set_cons_zero, List.set_cons_succ, i64_w, i32_w]
                        rfl
                      refine pure_ (i := 13) (N := some 25) (v := ?_) (a' := ?_) #[true, true, true, true, true, true, true, true, true, true, true, true, false, true, false, false, false, false] rfl rfl (any_of HT_.out (by kernel_rfl)) (fun _ _ _ h => h) (Or.inl ⟨by rfl, ?_⟩) ?_ ?_
                      rotate_left
                      · intro w'
                        go_simp
                        with_reducible rfl
                      rotate_left
                      · simp only [Act.put, List.setIfInBounds_toArray, List.set_cons_zero, List.set_cons_succ, i64_w, i32_w]
                        rfl
                      refine take_ (i := 12) (N := some 24) (v := ?_) (a' := ?_) #[true, true, true, true, true, true, true, true, true, true, true, true, true, true, false, false, false, false] rfl rfl (take_ofW HT_.out HW_.out (by kernel_rfl)) (fun _ _ _ h => h) (Or.inl ⟨by rfl, ?_⟩) hHeld ?_ ?_
                      rotate_left
                      · rintro w' ⟨s0, s1, s2, s3, s4, s5, s6, s7, s8, s9, s10, s11, s12, s13, s14, s15, s16, s17, s18, s19, s20, s21, s22, s23, s24, s25, s26, s27⟩
                        go_simp
                        with_reducible rfl
                      rotate_left
                      · simp only [Act.put, List.setIfInBounds_toArray, List.set_cons_zero, List.set_cons_succ, i64_w, i32_w]
                        rfl
                      refine take_ (i := 14) (N := some 26) (v := ?_) (a' := ?_) #[true, true, true, true, true, true, true, true, true, true, true, true, true, true, true, false, false, false] rfl rfl (take_ofW HT_.out HW_.out (by kernel_rfl)) (fun _ _ _ h => h) (Or.inl ⟨by rfl, ?_⟩) hHeld ?_ ?_
                      rotate_left
                      · rintro w' ⟨s0, s1, s2, s3, s4, s5, s6, s7, s8, s9, s10, s11, s12, s13, s14, s15, s16, s17, s18, s19, s20, s21, s22, s23, s24, s25, s26, s27⟩
                        go_simp
                        with_reducible rfl
                      rotate_left
                      · simp only [Act.put, List.setIfInBounds_toArray, List.set_cons_zero, List.set_cons_succ, i64_w, i32_w]
                        rfl
                      refine pure_ (i := 15) (N := some 27) (v := ?_) (a' := ?_) #[true, true, true, true, true, true, true, true, true, true, true, true, true, true, true, true, false, false] rfl rfl (any_of HT_.out (by kernel_rfl)) (fun _ _ _ h => h) (Or.inl ⟨by rfl, ?_⟩) ?_ ?_
                      rotate_left
                      · intro w'
                        go_simp
                        with_reducible rfl
                      rotate_left
                      · simp only [Act.put, List.setIfInBounds_toArray, List.set_cons_zero, List.set_cons_succ, i64_w, i32_w]
                        rfl
                      refine pure_ (i := 16) (N := some 28) (v := ?_) (a' := ?_) #[true, true, true, true, true, true, true, true, true, true, true, true, true, true, true, true, true, false] rfl rfl (any_of HT_.out (by kernel_rfl)) (fun _ _ _ h => h) (Or.inl ⟨by rfl, ?_⟩) ?_ ?_
                      rotate_left
                      · intro w'
                        go_simp
                        with_reducible rfl
                      rotate_left
                      · simp only [Act.put, List.setIfInBounds_toArray, List.set_cons_zero, List.set_cons_succ, i64_w, i32_w]
                        rfl
                      refine pure_ (i := 17) (N := some 29) (v := ?_) (a' := ?_) #[true, true, true, true, true, true, true, true, true, true, true, true, true, true, true, true, true, true] rfl rfl (any_of HT_.out (by kernel_rfl)) (fun _ _ _ h => h) (Or.inl ⟨by rfl, ?_⟩) ?_ ?_
                      rotate_left
                      · intro w'
                        go_simp
                        with_reducible rfl
                      rotate_left
                      · simp only [Act.put, List.setIfInBounds_toArray, List.set_cons_zero, List.set_cons_succ, i64_w, i32_w]
                        rfl
                      refine done_ (done_of HT_.out (by kernel_rfl)) ?_
                      try go_wp2
                      go_roundg k1
                      case measure => have := HK1.out; omega
                      case rel => exact ⟨(wrap64 (x7_1 + 1)), (by first | rfl | (simp; done) | (simp [*]; done)), H', ⟨by have := HK1.out; omega⟩, ⟨by repeat (first | (with_reducible first | exact HB.out | apply below_alloc | apply pw_below_drewN | apply below_drew1 | refine below_set ?_ GE614.out) | exact HB.out)⟩⟩
                  · rw [if_neg c10] at H
                    exact absurd H (by simp)
                · rw [if_neg c9] at H
                  exact absurd H (by simp)
              · rw [if_neg c7] at H
                have c7b0 : decide (0 < x7_1) = false := decide_eq_false c7
                clear c7
                have H' := Aside0.mk H
                clear H
                have p613 : 0 ≤ (x7_1 : Int) := of_decide_eq_true (by first | (with_reducible assumption) | assumption)
                have q613 : x7_1 < (l0.length : Int) := of_decide_eq_true (by first | (with_reducible assumption) | assumption)
                obtain ⟨ad613, e613, hx613_0, hx613_1, hx613_2, hx613_3, hx613_4, hx613_5, hx613_6, hx613_7, hx613_8, hx613_9, hx613_10, hx613_11, hx613_12, hx613_13⟩ := at_T24 HR0.out x7_1 p613 q613
                cases e613
                replace hx613_0 := (HB.out.cell (World.block_lt_of_cell? w _ hx613_0)).trans hx613_0
                replace hx613_1 := (HB.out.cell (World.block_lt_of_cell? w _ hx613_1)).trans hx613_1
                replace hx613_2 := (HB.out.cell (World.block_lt_of_cell? w _ hx613_2)).trans hx613_2
                replace hx613_3 := (HB.out.cell (World.block_lt_of_cell? w _ hx613_3)).trans hx613_3
                replace hx613_4 := (HB.out.cell (World.block_lt_of_cell? w _ hx613_4)).trans hx613_4
                replace hx613_5 := (HB.out.cell (World.block_lt_of_cell? w _ hx613_5)).trans hx613_5
                replace hx613_6 := (HB.out.cell (World.block_lt_of_cell? w _ hx613_6)).trans hx613_6
                replace hx613_7 := (HB.out.cell (World.block_lt_of_cell? w _ hx613_7)).trans hx613_7
                replace hx613_8 := (HB.out.cell (World.block_lt_of_cell? w _ hx613_8)).trans hx613_8
                replace hx613_9 := (HB.out.cell (World.block_lt_of_cell? w _ hx613_9)).trans hx613_9
                replace hx613_10 := (HB.out.cell (World.block_lt_of_cell? w _ hx613_10)).trans hx613_10
                replace hx613_11 := (HB.out.cell (World.block_lt_of_cell? w _ hx613_11)).trans hx613_11
                replace hx613_12 := (HB.out.cell (World.block_lt_of_cell? w _ hx613_12)).trans hx613_12
                replace hx613_13 := (HB.out.cell (World.block_lt_of_cell? w _ hx613_13)).trans hx613_13
                replace p613 := eq_true p613
                replace q613 := eq_true q613
                try go_wp2_with (first | ((with_reducible refine gate_dst (N := 4) rfl ?_); refine box_event ?hg (N := 4) ?hd (cs := tk14 0 0 0 0 false 0 0 0 0 0 0 0 0 0) (t := 24) ?hr ?_; (case hd => rfl); (case hg => rfl); (case hr => first | (go_simp; done) | (go_simp; rfl)); intro gb614 hg w22 hbox hb; have n0_ := Aside0.mk (below_step (by repeat (first | (with_reducible first | exact HB.out | apply below_alloc | apply pw_below_drewN | apply below_drew1) | exact HB.out)) hb); have n1_ := Aside0.mk (hbox); have n2_ := Aside0.mk ((by rw [hg]; exact (below_size (by repeat (first | (with_reducible first | exact HB.out | apply below_alloc | apply pw_below_drewN | apply below_drew1) | exact HB.out))) : w.heap.size ≤ gb614)); have n3_ := Aside0.mk ((by rw [hg]; exact (below_size (by repeat (first | (with_reducible first | exact HB.out | apply below_alloc | apply pw_below_drewN | apply below_drew1) | exact HB.out))) : w.heap.size ≤ gb614)); clear HB; have HB := n0_; have BK614 := n1_; have GW614 := n2_; have GE614 := n3_; clear n0_ n1_ n2_ n3_; clear hb hbox hg; obtain ⟨hcz23_0, hcz23_1, hcz23_2, hcz23_3, hcz23_4, hcz23_5, hcz23_6, hcz23_7, hcz23_8, hcz23_9, hcz23_10, hcz23_11, hcz23_12, hcz23_13⟩ := cz14 BK614.out; have hfz23_0 := blk_frozen BK614.out))
                have n0_ : Aside0 (((((((((((((((w22.setCell ⟨gb614, 0, none⟩ (.int .i64 ((rd_T24 l0 x7_1).f0))).setCell ⟨gb614, 1, none⟩ (.int .i64 ((rd_T24 l0 x7_1).f1))).setCell ⟨gb614, 2, none⟩ (.int .i64 ((rd_T24 l0 x7_1).f2))).setCell ⟨gb614, 3, none⟩ (.int .i64 ((rd_T24 l0 x7_1).f3))).setCell ⟨gb614, 4, none⟩ (.bool ((rd_T24 l0 x7_1).f4))).setCell ⟨gb614, 5, none⟩ (.int .i64 ((rd_T24 l0 x7_1).f5))).setCell ⟨gb614, 6, none⟩ (.int .i64 ((rd_T24 l0 x7_1).f6))).setCell ⟨gb614, 7, none⟩ (.int .i64 ((rd_T24 l0 x7_1).f7))).setCell ⟨gb614, 8, none⟩ (.int .i64 ((rd_T24 l0 x7_1).f8))).setCell ⟨gb614, 9, none⟩ (.int .i64 ((rd_T24 l0 x7_1).f9))).setCell ⟨gb614, 10, none⟩ (.int .i64 ((rd_T24 l0 x7_1).f10))).setCell ⟨gb614, 11, none⟩ (.int .i64 ((rd_T24 l0 x7_1).f11))).setCell ⟨gb614, 12, none⟩ (.int .i64 ((rd_T24 l0 x7_1).f12))).setCell ⟨gb614, 13, none⟩ (.int .i64 ((rd_T24 l0 x7_1).f13))).heap[gb614]? = some (.cells #[.int .i64 ((rd_T24 l0 x7_1).f0), .int .i64 ((rd_T24 l0 x7_1).f1), .int .i64 ((rd_T24 l0 x7_1).f2), .int .i64 ((rd_T24 l0 x7_1).f3), .bool ((rd_T24 l0 x7_1).f4), .int .i64 ((rd_T24 l0 x7_1).f5), .int .i64 ((rd_T24 l0 x7_1).f6), .int .i64 ((rd_T24 l0 x7_1).f7), .int .i64 ((rd_T24 l0 x7_1).f8), .int .i64 ((rd_T24 l0 x7_1).f9), .int .i64 ((rd_T24 l0 x7_1).f10), .int .i64 ((rd_T24 l0 x7_1).f11), .int .i64 ((rd_T24 l0 x7_1).f12), .int .i64 ((rd_T24 l0 x7_1).f13)] 24 (0, 0))) := ⟨by (with_reducible repeat (first | refine blk_drewN ?_ _ | refine blk_drew ?_ | refine blk_alloc ?_ _)); refine blk_put (cs := tk14 ((rd_T24 l0 x7_1).f0) ((rd_T24 l0 x7_1).f1) ((rd_T24 l0 x7_1).f2) ((rd_T24 l0 x7_1).f3) ((rd_T24 l0 x7_1).f4) ((rd_T24 l0 x7_1).f5) ((rd_T24 l0 x7_1).f6) ((rd_T24 l0 x7_1).f7) ((rd_T24 l0 x7_1).f8) ((rd_T24 l0 x7_1).f9) ((rd_T24 l0 x7_1).f10) ((rd_T24 l0 x7_1).f11) ((rd_T24 l0 x7_1).f12) 0) ?_ 13 _ rfl; (with_reducible repeat (first | refine blk_drewN ?_ _ | refine blk_drew ?_ | refine blk_alloc ?_ _)); refine blk_put (cs := tk14 ((rd_T24 l0 x7_1).f0) ((rd_T24 l0 x7_1).f1) ((rd_T24 l0 x7_1).f2) ((rd_T24 l0 x7_1).f3) ((rd_T24 l0 x7_1).f4) ((rd_T24 l0 x7_1).f5) ((rd_T24 l0 x7_1).f6) ((rd_T24 l0 x7_1).f7) ((rd_T24 l0 x7_1).f8) ((rd_T24 l0 x7_1).f9) ((rd_T24 l0 x7_1).f10) ((rd_T24 l0 x7_1).f11) 0 0) ?_ 12 _ rfl; (with_reducible repeat (first | refine blk_drewN ?_ _ | refine blk_drew ?_ | refine blk_alloc ?_ _)); refine blk_put (cs := tk14 ((rd_T24 l0 x7_1).f0) ((rd_T24 l0 x7_1).f1) ((rd_T24 l0 x7_1).f2) ((rd_T24 l0 x7_1).f3) ((rd_T24 l0 x7_1).f4) ((rd_T24 l0 x7_1).f5) ((rd_T24 l0 x7_1).f6) ((rd_T24 l0 x7_1).f7) ((rd_T24 l0 x7_1).f8) ((rd_T24 l0 x7_1).f9) ((rd_T24 l0 x7_1).f10) 0 0 0) ?_ 11 _ rfl; (with_reducible repeat (first | refine blk_drewN ?_ _ | refine blk_drew ?_ | refine blk_alloc ?_ _)); refine blk_put (cs := tk14 ((rd_T24 l0 x7_1).f0) ((rd_T24 l0 x7_1).f1) ((rd_T24 l0 x7_1).f2) ((rd_T24 l0 x7_1).f3) ((rd_T24 l0 x7_1).f4) ((rd_T24 l0 x7_1).f5) ((rd_T24 l0 x7_1).f6) ((rd_T24 l0 x7_1).f7) ((rd_T24 l0 x7_1).f8) ((rd_T24 l0 x7_1).f9) 0 0 0 0) ?_ 10 _ rfl; (with_reducible repeat (first | refine blk_drewN ?_ _ | refine blk_drew ?_ | refine blk_alloc ?_ _)); refine blk_put (cs := tk14 ((rd_T24 l0 x7_1).f0) ((rd_T24 l0 x7_1).f1) ((rd_T24 l0 x7_1).f2) ((rd_T24 l0 x7_1).f3) ((rd_T24 l0 x7_1).f4) ((rd_T24 l0 x7_1).f5) ((rd_T24 l0 x7_1).f6) ((rd_T24 l0 x7_1).f7) ((rd_T24 l0 x7_1).f8) 0 0 0 0 0) ?_ 9 _ rfl; (with_reducible repeat (first | refine blk_drewN ?_ _ | refine blk_drew ?_ | refine blk_alloc ?_ _)); refine blk_put (cs := tk14 ((rd_T24 l0 x7_1).f0) ((rd_T24 l0 x7_1).f1) ((rd_T24 l0 x7_1).f2) ((rd_T24 l0 x7_1).f3) ((rd_T24 l0 x7_1).f4) ((rd_T24 l0 x7_1).f5) ((rd_T24 l0 x7_1).f6) ((rd_T24 l0 x7_1).f7) 0 0 0 0 0 0) ?_ 8 _ rfl; (with_reducible repeat (first | refine blk_drewN ?_ _ | refine blk_drew ?_ | refine blk_alloc ?_ _)); refine blk_put (cs := tk14 ((rd_T24 l0 x7_1).f0) ((rd_T24 l0 x7_1).f1) ((rd_T24 l0 x7_1).f2) ((rd_T24 l0 x7_1).f3) ((rd_T24 l0 x7_1).f4) ((rd_T24 l0 x7_1).f5) ((rd_T24 l0 x7_1).f6) 0 0 0 0 0 0 0) ?_ 7 _ rfl; (with_reducible repeat (first | refine blk_drewN ?_ _ | refine blk_drew ?_ | refine blk_alloc ?_ _)); refine blk_put (cs := tk14 ((rd_T24 l0 x7_1).f0) ((rd_T24 l0 x7_1).f1) ((rd_T24 l0 x7_1).f2) ((rd_T24 l0 x7_1).f3) ((rd_T24 l0 x7_1).f4) ((rd_T24 l0 x7_1).f5) 0 0 0 0 0 0 0 0) ?_ 6 _ rfl; (with_reducible repeat (first | refine blk_drewN ?_ _ | refine blk_drew ?_ | refine blk_alloc ?_ _)); refine blk_put (cs := tk14 ((rd_T24 l0 x7_1).f0) ((rd_T24 l0 x7_1).f1) ((rd_T24 l0 x7_1).f2) ((rd_T24 l0 x7_1).f3) ((rd_T24 l0 x7_1).f4) 0 0 0 0 0 0 0 0 0) ?_ 5 _ rfl; (with_reducible repeat (first | refine blk_drewN ?_ _ | refine blk_drew ?_ | refine blk_alloc ?_ _)); refine blk_put (cs := tk14 ((rd_T24 l0 x7_1).f0) ((rd_T24 l0 x7_1).f1) ((rd_T24 l0 x7_1).f2) ((rd_T24 l0 x7_1).f3) false 0 0 0 0 0 0 0 0 0) ?_ 4 _ rfl; (with_reducible repeat (first | refine blk_drewN ?_ _ | refine blk_drew ?_ | refine blk_alloc ?_ _)); refine blk_put (cs := tk14 ((rd_T24 l0 x7_1).f0) ((rd_T24 l0 x7_1).f1) ((rd_T24 l0 x7_1).f2) 0 false 0 0 0 0 0 0 0 0 0) ?_ 3 _ rfl; (with_reducible repeat (first | refine blk_drewN ?_ _ | refine blk_drew ?_ | refine blk_alloc ?_ _)); refine blk_put (cs := tk14 ((rd_T24 l0 x7_1).f0) ((rd_T24 l0 x7_1).f1) 0 0 false 0 0 0 0 0 0 0 0 0) ?_ 2 _ rfl; (with_reducible repeat (first | refine blk_drewN ?_ _ | refine blk_drew ?_ | refine blk_alloc ?_ _)); refine blk_put (cs := tk14 ((rd_T24 l0 x7_1).f0) 0 0 0 false 0 0 0 0 0 0 0 0 0) ?_ 1 _ rfl; (with_reducible repeat (first | refine blk_drewN ?_ _ | refine blk_drew ?_ | refine blk_alloc ?_ _)); refine blk_put (cs := tk14 0 0 0 0 false 0 0 0 0 0 0 0 0 0) ?_ 0 _ rfl; (with_reducible repeat (first | refine blk_drewN ?_ _ | refine blk_drew ?_ | refine blk_alloc ?_ _)); exact BK614.out⟩
                have n1_ : Aside0 (Below w.heap.size w ((((((((((((((w22.setCell ⟨gb614, 0, none⟩ (.int .i64 ((rd_T24 l0 x7_1).f0))).setCell ⟨gb614, 1, none⟩ (.int .i64 ((rd_T24 l0 x7_1).f1))).setCell ⟨gb614, 2, none⟩ (.int .i64 ((rd_T24 l0 x7_1).f2))).setCell ⟨gb614, 3, none⟩ (.int .i64 ((rd_T24 l0 x7_1).f3))).setCell ⟨gb614, 4, none⟩ (.bool ((rd_T24 l0 x7_1).f4))).setCell ⟨gb614, 5, none⟩ (.int .i64 ((rd_T24 l0 x7_1).f5))).setCell ⟨gb614, 6, none⟩ (.int .i64 ((rd_T24 l0 x7_1).f6))).setCell ⟨gb614, 7, none⟩ (.int .i64 ((rd_T24 l0 x7_1).f7))).setCell ⟨gb614, 8, none⟩ (.int .i64 ((rd_T24 l0 x7_1).f8))).setCell ⟨gb614, 9, none⟩ (.int .i64 ((rd_T24 l0 x7_1).f9))).setCell ⟨gb614, 10, none⟩ (.int .i64 ((rd_T24 l0 x7_1).f10))).setCell ⟨gb614, 11, none⟩ (.int .i64 ((rd_T24 l0 x7_1).f11))).setCell ⟨gb614, 12, none⟩ (.int .i64 ((rd_T24 l0 x7_1).f12))).setCell ⟨gb614, 13, none⟩ (.int .i64 ((rd_T24 l0 x7_1).f13)))) := ⟨by repeat (first | (with_reducible first | exact HB.out | apply below_alloc | apply pw_below_drewN | apply below_drew1 | refine below_set ?_ GE614.out) | exact HB.out)⟩
                (try clear BK614)
                (try clear HB)
                generalize ((((((((((((((w22.setCell ⟨gb614, 0, none⟩ (.int .i64 ((rd_T24 l0 x7_1).f0))).setCell ⟨gb614, 1, none⟩ (.int .i64 ((rd_T24 l0 x7_1).f1))).setCell ⟨gb614, 2, none⟩ (.int .i64 ((rd_T24 l0 x7_1).f2))).setCell ⟨gb614, 3, none⟩ (.int .i64 ((rd_T24 l0 x7_1).f3))).setCell ⟨gb614, 4, none⟩ (.bool ((rd_T24 l0 x7_1).f4))).setCell ⟨gb614, 5, none⟩ (.int .i64 ((rd_T24 l0 x7_1).f5))).setCell ⟨gb614, 6, none⟩ (.int .i64 ((rd_T24 l0 x7_1).f6))).setCell ⟨gb614, 7, none⟩ (.int .i64 ((rd_T24 l0 x7_1).f7))).setCell ⟨gb614, 8, none⟩ (.int .i64 ((rd_T24 l0 x7_1).f8))).setCell ⟨gb614, 9, none⟩ (.int .i64 ((rd_T24 l0 x7_1).f9))).setCell ⟨gb614, 10, none⟩ (.int .i64 ((rd_T24 l0 x7_1).f10))).setCell ⟨gb614, 11, none⟩ (.int .i64 ((rd_T24 l0 x7_1).f11))).setCell ⟨gb614, 12, none⟩ (.int .i64 ((rd_T24 l0 x7_1).f12))).setCell ⟨gb614, 13, none⟩ (.int .i64 ((rd_T24 l0 x7_1).f13))) = w24 at n0_ n1_ ⊢
                have BK614 := n0_
                have HB := n1_
                clear n0_ n1_
                have n0_ := Aside0.mk (blk_drew BK614.out)
                have n1_ := Aside0.mk (below_drew1 HB.out)
                clear BK614
                clear HB
                have BK614 := n0_
                have HB := n1_
                clear n0_ n1_
                refine start_ (n := 18) (S := fun w' => w'.cell? ⟨gb614, 0, none⟩ = some (.int .i64 ((rd_T24 l0 x7_1).f0)) ∧ w'.cell? ⟨gb614, 1, none⟩ = some (.int .i64 ((rd_T24 l0 x7_1).f1)) ∧ w'.cell? ⟨gb614, 2, none⟩ = some (.int .i64 ((rd_T24 l0 x7_1).f2)) ∧ w'.cell? ⟨gb614, 3, none⟩ = some (.int .i64 ((rd_T24 l0 x7_1).f3)) ∧ w'.cell? ⟨gb614, 4, none⟩ = some (.bool ((rd_T24 l0 x7_1).f4)) ∧ w'.cell? ⟨gb614, 5, none⟩ = some (.int .i64 ((rd_T24 l0 x7_1).f5)) ∧ w'.cell? ⟨gb614, 6, none⟩ = some (.int .i64 ((rd_T24 l0 x7_1).f6)) ∧ w'.cell? ⟨gb614, 7, none⟩ = some (.int .i64 ((rd_T24 l0 x7_1).f7)) ∧ w'.cell? ⟨gb614, 8, none⟩ = some (.int .i64 ((rd_T24 l0 x7_1).f8)) ∧ w'.cell? ⟨gb614, 9, none⟩ = some (.int .i64 ((rd_T24 l0 x7_1).f9)) ∧ w'.cell? ⟨gb614, 10, none⟩ = some (.int .i64 ((rd_T24 l0 x7_1).f10)) ∧ w'.cell? ⟨gb614, 11, none⟩ = some (.int .i64 ((rd_T24 l0 x7_1).f11)) ∧ w'.cell? ⟨gb614, 12, none⟩ = some (.int .i64 ((rd_T24 l0 x7_1).f12)) ∧ w'.cell? ⟨gb614, 13, none⟩ = some (.int .i64 ((rd_T24 l0 x7_1).f13))) (ds := []) #[false, false, false, false, false, false, false, false, false, false, false, false, false, false, false, false, false, false] (by kernel_rfl) rfl rfl ⟨(blk_cell BK614.out 0).trans rfl, (blk_cell BK614.out 1).trans rfl, (blk_cell BK614.out 2).trans rfl, (blk_cell BK614.out 3).trans rfl, (blk_cell BK614.out 4).trans rfl, (blk_cell BK614.out 5).trans rfl, (blk_cell BK614.out 6).trans rfl, (blk_cell BK614.out 7).trans rfl, (blk_cell BK614.out 8).trans rfl, (blk_cell BK614.out 9).trans rfl, (blk_cell BK614.out 10).trans rfl, (blk_cell BK614.out 11).trans rfl, (blk_cell BK614.out 12).trans rfl, (blk_cell BK614.out 13).trans rfl⟩ (fun hHeld => ?_); refine with_tabW impl_TasksOk.tab4 impl_TasksOk.bits4 (fun HT_ HW_ => ?_)
                generalize w24.drew = w25 at BK614 HB hHeld ⊢
                refine take_ (i := 0) (N := some 12) (v := ?_) (a' := ?_) #[true, false, false, false, false, false, false, false, false, false, false, false, false, false, false, false, false, false] rfl rfl (take_ofW HT_.out HW_.out (by kernel_rfl)) (fun _ _ _ h => h) (Or.inl ⟨by rfl, ?_⟩) hHeld ?_ ?_
                rotate_left
                · rintro w' ⟨s0, s1, s2, s3, s4, s5, s6, s7, s8, s9, s10, s11, s12, s13⟩
                  go_simp
                  with_reducible rfl
                rotate_left
                · simp only [Act.put, List.setIfInBounds_toArray, List.set_cons_zero, List.set_cons_succ, i64_w, i32_w]
                  rfl
                refine one_ (i := 1) (N := some 13) #[true, true, false, false, false, false, false, false, false, false, false, false, false, false, false, false, false, false] rfl rfl (one_of HT_.out (by kernel_rfl)) (by decide) (fun K hK => ?_)
                refine goes_ Try.func29 (by kernel_rfl) rfl #[.agg #[.int .i64 ((rd_T24 l0 x7_1).f0), .int .i64 ((rd_T24 l0 x7_1).f1), .int .i64 ((rd_T24 l0 x7_1).f2), .int .i64 ((rd_T24 l0 x7_1).f3), .bool ((rd_T24 l0 x7_1).f4), .int .i64 ((rd_T24 l0 x7_1).f5), .int .i64 ((rd_T24 l0 x7_1).f6), .int .i64 ((rd_T24 l0 x7_1).f7), .int .i64 ((rd_T24 l0 x7_1).f8), .int .i64 ((rd_T24 l0 x7_1).f9), .int .i64 ((rd_T24 l0 x7_1).f10), .int .i64 ((rd_T24 l0 x7_1).f11), .int .i64 ((rd_T24 l0 x7_1).f12), .int .i64 ((rd_T24 l0 x7_1).f13)]] (by rfl) rfl rfl (by (try simp only [List.map_toArray, List.map_cons, List.map_nil]); first | done | rfl | (simp only [List.length_drop, List.length_take]; rfl)) ?_
                with_reducible refine (impl_TaskOk.calls ((rd_T24 l0 x7_1).f0) ((rd_T24 l0 x7_1).f1) ((rd_T24 l0 x7_1).f2) ((rd_T24 l0 x7_1).f3) ((rd_T24 l0 x7_1).f4) ((rd_T24 l0 x7_1).f5) ((rd_T24 l0 x7_1).f6) ((rd_T24 l0 x7_1).f7) ((rd_T24 l0 x7_1).f8) ((rd_T24 l0 x7_1).f9) ((rd_T24 l0 x7_1).f10) ((rd_T24 l0 x7_1).f11) ((rd_T24 l0 x7_1).f12) ((rd_T24 l0 x7_1).f13) true _ A5.out).mono ?_
                rintro e w26 ⟨rfl, hb⟩
                refine ⟨_, rfl, ?_⟩
                have n0_ := Aside0.mk (blk_below (g := gb614) (o := .cells (tk14 ((rd_T24 l0 x7_1).f0) ((rd_T24 l0 x7_1).f1) ((rd_T24 l0 x7_1).f2) ((rd_T24 l0 x7_1).f3) ((rd_T24 l0 x7_1).f4) ((rd_T24 l0 x7_1).f5) ((rd_T24 l0 x7_1).f6) ((rd_T24 l0 x7_1).f7) ((rd_T24 l0 x7_1).f8) ((rd_T24 l0 x7_1).f9) ((rd_T24 l0 x7_1).f10) ((rd_T24 l0 x7_1).f11) ((rd_T24 l0 x7_1).f12) ((rd_T24 l0 x7_1).f13)) 24 (0, 0)) (by (with_reducible repeat (first | refine blk_drewN ?_ _ | refine blk_drew ?_ | refine blk_alloc ?_ _)); exact BK614.out) hb)
                have n1_ := Aside0.mk (below_step (by repeat (first | (with_reducible first | exact HB.out | apply below_alloc | apply pw_below_drewN | apply below_drew1 | refine below_set ?_ GE614.out) | exact HB.out)) hb)
                clear BK614
                clear HB
                have BK614 := n0_
                have HB := n1_
                clear n0_ n1_
                (try clear hb)
                (try clear hb2)
                (try clear hk)
                (try clear hi)
                refine hK.out _ _ ⟨(blk_cell BK614.out 0).trans rfl, (blk_cell BK614.out 1).trans rfl, (blk_cell BK614.out 2).trans rfl, (blk_cell BK614.out 3).trans rfl, (blk_cell BK614.out 4).trans rfl, (blk_cell BK614.out 5).trans rfl, (blk_cell BK614.out 6).trans rfl, (blk_cell BK614.out 7).trans rfl, (blk_cell BK614.out 8).trans rfl, (blk_cell BK614.out 9).trans rfl, (blk_cell BK614.out 10).trans rfl, (blk_cell BK614.out 11).trans rfl, (blk_cell BK614.out 12).trans rfl, (blk_cell BK614.out 13).trans rfl⟩ (fun hHeld => ?_)
                clear hK K
                refine norm_ (a' := ?_) ?_ ?_
                rotate_left
                · show Act.put _ (some 13) _ = _
                  simp only [Act.put, List.setIfInBounds_toArray, List.set_cons_zero, List.set_cons_succ, i64_w, i32_w]
                  rfl
                refine pure_ (i := 2) (N := some 14) (v := ?_) (a' := ?_) #[true, true, true, false, false, false, false, false, false, false, false, false, false, false, false, false, false, false] rfl rfl (any_of HT_.out (by kernel_rfl)) (fun _ _ _ h => h) (Or.inl ⟨by rfl, ?_⟩) ?_ ?_
                rotate_left
                · intro w'
                  go_simp
                  with_reducible rfl
                rotate_left
                · simp only [Act.put, List.setIfInBounds_toArray, List.set_cons_zero, List.set_cons_succ, i64_w, i32_w]
                  rfl
                refine pure_ (i := 3) (N := some 15) (v := ?_) (a' := ?_) #[true, true, true, true, false, false, false, false, false, false, false, false, false, false, false, false, false, false] rfl rfl (any_of HT_.out (by kernel_rfl)) (fun _ _ _ h => h) (Or.inl ⟨by rfl, ?_⟩) ?_ ?_
                rotate_left
                · intro w'
                  go_simp
                  with_reducible rfl
                rotate_left
                · simp only [Act.put, List.setIfInBounds_toArray, List.set_cons_zero, List.set_cons_succ, i64_w, i32_w]
                  rfl
                refine pure_ (i := 4) (N := some 16) (v := ?_) (a' := ?_) #[true, true, true, true, true, false, false, false, false, false, false, false, false, false, false, false, false, false] rfl rfl (any_of HT_.out (by kernel_rfl)) (fun _ _ _ h => h) (Or.inl ⟨by rfl, ?_⟩) ?_ ?_
                rotate_left
                · intro w'
                  go_simp
                  with_reducible rfl
                rotate_left
                · simp only [Act.put, List.setIfInBounds_toArray, List.set_cons_zero, List.set_cons_succ, i64_w, i32_w]
                  rfl
                refine pure_ (i := 5) (N := some 17) (v := ?_) (a' := ?_) #[true, true, true, true, true, true, false, false, false, false, false, false, false, false, false, false, false, false] rfl rfl (any_of HT_.out (by kernel_rfl)) (fun _ _ _ h => h) (Or.inl ⟨by rfl, ?_⟩) ?_ ?_
                rotate_left
                · intro w'
                  go_simp
                  with_reducible rfl
                rotate_left
                · simp only [Act.put, List.setIfInBounds_toArray, List.set_cons_zero, List.set_cons_succ, i64_w, i32_w]
                  rfl
                refine pure_ (i := 6) (N := some 18) (v := ?_) (a' := ?_) #[true, true, true, true, true, true, true, false, false, false, false, false, false, false, false, false, false, false] rfl rfl (any_of HT_.out (by kernel_rfl)) (fun _ _ _ h => h) (Or.inl ⟨by rfl, ?_⟩) ?_ ?_
                rotate_left
                · intro w'
                  go_simp
                  with_reducible rfl
                rotate_left
                · simp only [Act.put, List.setIfInBounds_toArray, List.set_cons_zero, List.set_cons_succ, i64_w, i32_w]
                  rfl
                refine pure_ (i := 7) (N := some 19) (v := undef) (a' := ?_) #[true, true, true, true, true, true, true, true, false, false, false, false, false, false, false, false, false, false] rfl rfl (any_of HT_.out (by kernel_rfl)) (fun _ _ _ h => h) (Or.inr ⟨by rfl, rfl⟩) ?_ ?_
                rotate_left
                · simp only [Act.put, List.setIfInBounds_toArray, List.set_cons_zero, List.set_cons_succ, i64_w, i32_w]
                  rfl
                refine pure_ (i := 8) (N := some 20) (v := undef) (a' := ?_) #[true, true, true, true, true, true, true, true, true, false, false, false, false, false, false, false, false, false] rfl rfl (any_of HT_.out (by kernel_rfl)) (fun _ _ _ h => h) (Or.inr ⟨by rfl, rfl⟩) ?_ ?_
                rotate_left
                · simp only [Act.put, List.setIfInBounds_toArray, List.set_cons_zero, List.set_cons_succ, i64_w, i32_w]
                  rfl
                refine pure_ (i := 9) (N := some 21) (v := undef) (a' := ?_) #[true, true, true, true, true, true, true, true, true, true, false, false, false, false, false, false, false, false] rfl rfl (any_of HT_.out (by kernel_rfl)) (fun _ _ _ h => h) (Or.inr ⟨by rfl, rfl⟩) ?_ ?_
                rotate_left
                · simp only [Act.put, List.setIfInBounds_toArray, List.set_cons_zero, List.set_cons_succ, i64_w, i32_w]
                  rfl
                refine pure_ (i := 10) (N := some 22) (v := undef) (a' := ?_) #[true, true, true, true, true, true, true, true, true, true, true, false, false, false, false, false, false, false] rfl rfl (any_of HT_.out (by kernel_rfl)) (fun _ _ _ h => h) (Or.inr ⟨by rfl, rfl⟩) ?_ ?_
                rotate_left
                · simp only [Act.put, List.setIfInBounds_toArray, List.set_cons_zero, List.set_cons_succ, i64_w, i32_w]
                  rfl
                refine pure_ (i := 11) (N := some 23) (v := undef) (a' := ?_) #[true, true, true, true, true, true, true, true, true, true, true, true, false, false, false, false, false, false] rfl rfl (any_of HT_.out (by kernel_rfl)) (fun _ _ _ h => h) (Or.inr ⟨by rfl, rfl⟩) ?_ ?_
                rotate_left
                · simp only [Act.put, List.setIfInBounds_toArray, List.set_cons_zero, List.set_cons_succ, i64_w, i32_w]
                  rfl
                refine pure_ (i := 12) (N := some 24) (v := undef) (a' := ?_) #[true, true, true, true, true, true, true, true, true, true, true, true, true, false, false, false, false, false] rfl rfl (any_of HT_.out (by kernel_rfl)) (fun _ _ _ h => h) (Or.inr ⟨by rfl, rfl⟩) ?_ ?_
                rotate_left
                · simp only [Act.put, List.setIfInBounds_toArray, List.set_cons_zero, List.set_cons_succ, i64_w, i32_w]
                  rfl
                refine pure_ (i := 13) (N := some 25) (v := undef) (a' := ?_) #[true, true, true, true, true, true, true, true, true, true, true, true, true, true, false, false, false, false] rfl rfl (any_of HT_.out (by kernel_rfl)) (fun _ _ _ h => h) (Or.inr ⟨by rfl, rfl⟩) ?_ ?_
                rotate_left
                · simp only [Act.put, List.setIfInBounds_toArray, List.set_cons_zero, List.set_cons_succ, i64_w, i32_w]
                  rfl
                refine pure_ (i := 14) (N := some 26) (v := undef) (a' := ?_) #[true, true, true, true, true, true, true, true, true, true, true, true, true, true, true, false, false, false] rfl rfl (any_of HT_.out (by kernel_rfl)) (fun _ _ _ h => h) (Or.inr ⟨by rfl, rfl⟩) ?_ ?_
                rotate_left
                · simp only [Act.put, List.setIfInBounds_toArray, List.set_cons_zero, List.set_cons_succ, i64_w, i32_w]
                  rfl
                refine pure_ (i := 15) (N := some 27) (v := undef) (a' := ?_) #[true, true, true, true, true, true, true, true, true, true, true, true, true, true, true, true, false, false] rfl rfl (any_of HT_.out (by kernel_rfl)) (fun _ _ _ h => h) (Or.inr ⟨by rfl, rfl⟩) ?_ ?_
                rotate_left
                · simp only [Act.put, List.setIfInBounds_toArray, List.set_cons_zero, List.set_cons_succ, i64_w, i32_w]
                  rfl
                refine pure_ (i := 16) (N := some 28) (v := ?_) (a' := ?_) #[true, true, true, true, true, true, true, true, true, true, true, true, true, true, true, true, true, false] rfl rfl (any_of HT_.out (by kernel_rfl)) (fun _ _ _ h => h) (Or.inl ⟨by rfl, ?_⟩) ?_ ?_
                rotate_left
                · intro w'
                  go_simp
                  with_reducible rfl
                rotate_left
                · simp only [Act.put, List.setIfInBounds_toArray, List.set_cons_zero, List.set_cons_succ, i64_w, i32_w]
                  rfl
                refine pure_ (i := 17) (N := some 29) (v := ?_) (a' := ?_) #[true, true, true, true, true, true, true, true, true, true, true, true, true, true, true, true, true, true] rfl rfl (any_of HT_.out (by kernel_rfl)) (fun _ _ _ h => h) (Or.inl ⟨by rfl, ?_⟩) ?_ ?_
                rotate_left
                · intro w'
                  go_simp
                  with_reducible rfl
                rotate_left
                · simp only [Act.put, List.setIfInBounds_toArray, List.set_cons_zero, List.set_cons_succ, i64_w, i32_w]
                  rfl
                refine done_ (done_of HT_.out (by kernel_rfl)) ?_
                try go_wp2
                go_roundg k1
                case measure => have := HK1.out; omega
                case rel => exact ⟨(wrap64 (x7_1 + 1)), (by first | rfl | (simp; done) | (simp [*]; done)), H', ⟨by have := HK1.out; omega⟩, ⟨by repeat (first | (with_reducible first | exact HB.out | apply below_alloc | apply pw_below_drewN | apply below_drew1 | refine below_set ?_ GE614.out) | exact HB.out)⟩⟩
            · replace c6 := Bool.eq_false_iff.mpr c6
              subst c6
              have H1 : (some false) = some r := by rw [if_neg (show ¬ (false = true) by decide)] at H; exact H
              clear H
              have H := H1
              clear H1
              obtain rfl := Option.some.inj H
              have p613 : 0 ≤ (x7_1 : Int) := of_decide_eq_true (by first | (with_reducible assumption) | assumption)
              have q613 : x7_1 < (l0.length : Int) := of_decide_eq_true (by first | (with_reducible assumption) | assumption)
              obtain ⟨ad613, e613, hx613_0, hx613_1, hx613_2, hx613_3, hx613_4, hx613_5, hx613_6, hx613_7, hx613_8, hx613_9, hx613_10, hx613_11, hx613_12, hx613_13⟩ := at_T24 HR0.out x7_1 p613 q613
              cases e613
              replace hx613_0 := (HB.out.cell (World.block_lt_of_cell? w _ hx613_0)).trans hx613_0
              replace hx613_1 := (HB.out.cell (World.block_lt_of_cell? w _ hx613_1)).trans hx613_1
              replace hx613_2 := (HB.out.cell (World.block_lt_of_cell? w _ hx613_2)).trans hx613_2
              replace hx613_3 := (HB.out.cell (World.block_lt_of_cell? w _ hx613_3)).trans hx613_3
              replace hx613_4 := (HB.out.cell (World.block_lt_of_cell? w _ hx613_4)).trans hx613_4
              replace hx613_5 := (HB.out.cell (World.block_lt_of_cell? w _ hx613_5)).trans hx613_5
              replace hx613_6 := (HB.out.cell (World.block_lt_of_cell? w _ hx613_6)).trans hx613_6
              replace hx613_7 := (HB.out.cell (World.block_lt_of_cell? w _ hx613_7)).trans hx613_7
              replace hx613_8 := (HB.out.cell (World.block_lt_of_cell? w _ hx613_8)).trans hx613_8
              replace hx613_9 := (HB.out.cell (World.block_lt_of_cell? w _ hx613_9)).trans hx613_9
              replace hx613_10 := (HB.out.cell (World.block_lt_of_cell? w _ hx613_10)).trans hx613_10
              replace hx613_11 := (HB.out.cell (World.block_lt_of_cell? w _ hx613_11)).trans hx613_11
              replace hx613_12 := (HB.out.cell (World.block_lt_of_cell? w _ hx613_12)).trans hx613_12
              replace hx613_13 := (HB.out.cell (World.block_lt_of_cell? w _ hx613_13)).trans hx613_13
              replace p613 := eq_true p613
              replace q613 := eq_true q613
              try go_wp2_with (first | ((with_reducible refine gate_dst (N := 4) rfl ?_); refine box_event ?hg (N := 4) ?hd (cs := tk14 0 0 0 0 false 0 0 0 0 0 0 0 0 0) (t := 24) ?hr ?_; (case hd => rfl); (case hg => rfl); (case hr => first | (go_simp; done) | (go_simp; rfl)); intro gb614 hg w27 hbox hb; have n0_ := Aside0.mk (below_step (by repeat (first | (with_reducible first | exact HB.out | apply below_alloc | apply pw_below_drewN | apply below_drew1) | exact HB.out)) hb); have n1_ := Aside0.mk (hbox); have n2_ := Aside0.mk ((by rw [hg]; exact (below_size (by repeat (first | (with_reducible first | exact HB.out | apply below_alloc | apply pw_below_drewN | apply below_drew1) | exact HB.out))) : w.heap.size ≤ gb614)); have n3_ := Aside0.mk ((by rw [hg]; exact (below_size (by repeat (first | (with_reducible first | exact HB.out | apply below_alloc | apply pw_below_drewN | apply below_drew1) | exact HB.out))) : w.heap.size ≤ gb614)); clear HB; have HB := n0_; have BK614 := n1_; have GW614 := n2_; have GE614 := n3_; clear n0_ n1_ n2_ n3_; clear hb hbox hg; obtain ⟨hcz28_0, hcz28_1, hcz28_2, hcz28_3, hcz28_4, hcz28_5, hcz28_6, hcz28_7, hcz28_8, hcz28_9, hcz28_10, hcz28_11, hcz28_12, hcz28_13⟩ := cz14 BK614.out; have hfz28_0 := blk_frozen BK614.out))
              have n0_ : Aside0 (((((((((((((((w27.setCell ⟨gb614, 0, none⟩ (.int .i64 ((rd_T24 l0 x7_1).f0))).setCell ⟨gb614, 1, none⟩ (.int .i64 ((rd_T24 l0 x7_1).f1))).setCell ⟨gb614, 2, none⟩ (.int .i64 ((rd_T24 l0 x7_1).f2))).setCell ⟨gb614, 3, none⟩ (.int .i64 ((rd_T24 l0 x7_1).f3))).setCell ⟨gb614, 4, none⟩ (.bool ((rd_T24 l0 x7_1).f4))).setCell ⟨gb614, 5, none⟩ (.int .i64 ((rd_T24 l0 x7_1).f5))).setCell ⟨gb614, 6, none⟩ (.int .i64 ((rd_T24 l0 x7_1).f6))).setCell ⟨gb614, 7, none⟩ (.int .i64 ((rd_T24 l0 x7_1).f7))).setCell ⟨gb614, 8, none⟩ (.int .i64 ((rd_T24 l0 x7_1).f8))).setCell ⟨gb614, 9, none⟩ (.int .i64 ((rd_T24 l0 x7_1).f9))).setCell ⟨gb614, 10, none⟩ (.int .i64 ((rd_T24 l0 x7_1).f10))).setCell ⟨gb614, 11, none⟩ (.int .i64 ((rd_T24 l0 x7_1).f11))).setCell ⟨gb614, 12, none⟩ (.int .i64 ((rd_T24 l0 x7_1).f12))).setCell ⟨gb614, 13, none⟩ (.int .i64 ((rd_T24 l0 x7_1).f13))).heap[gb614]? = some (.cells #[.int .i64 ((rd_T24 l0 x7_1).f0), .int .i64 ((rd_T24 l0 x7_1).f1), .int .i64 ((rd_T24 l0 x7_1).f2), .int .i64 ((rd_T24 l0 x7_1).f3), .bool ((rd_T24 l0 x7_1).f4), .int .i64 ((rd_T24 l0 x7_1).f5), .int .i64 ((rd_T24 l0 x7_1).f6), .int .i64 ((rd_T24 l0 x7_1).f7), .int .i64 ((rd_T24 l0 x7_1).f8), .int .i64 ((rd_T24 l0 x7_1).f9), .int .i64 ((rd_T24 l0 x7_1).f10), .int .i64 ((rd_T24 l0 x7_1).f11), .int .i64 ((rd_T24 l0 x7_1).f12), .int .i64 ((rd_T24 l0 x7_1).f13)] 24 (0, 0))) := ⟨by (with_reducible repeat (first | refine blk_drewN ?_ _ | refine blk_drew ?_ | refine blk_alloc ?_ _)); refine blk_put (cs := tk14 ((rd_T24 l0 x7_1).f0) ((rd_T24 l0 x7_1).f1) ((rd_T24 l0 x7_1).f2) ((rd_T24 l0 x7_1).f3) ((rd_T24 l0 x7_1).f4) ((rd_T24 l0 x7_1).f5) ((rd_T24 l0 x7_1).f6) ((rd_T24 l0 x7_1).f7) ((rd_T24 l0 x7_1).f8) ((rd_T24 l0 x7_1).f9) ((rd_T24 l0 x7_1).f10) ((rd_T24 l0 x7_1).f11) ((rd_T24 l0 x7_1).f12) 0) ?_ 13 _ rfl; (with_reducible repeat (first | refine blk_drewN ?_ _ | refine blk_drew ?_ | refine blk_alloc ?_ _)); refine blk_put (cs := tk14 ((rd_T24 l0 x7_1).f0) ((rd_T24 l0 x7_1).f1) ((rd_T24 l0 x7_1).f2) ((rd_T24 l0 x7_1).f3) ((rd_T24 l0 x7_1).f4) ((rd_T24 l0 x7_1).f5) ((rd_T24 l0 x7_1).f6) ((rd_T24 l0 x7_1).f7) ((rd_T24 l0 x7_1).f8) ((rd_T24 l0 x7_1).f9) ((rd_T24 l0 x7_1).f10) ((rd_T24 l0 x7_1).f11) 0 0) ?_ 12 _ rfl; (with_reducible repeat (first | refine blk_drewN ?_ _ | refine blk_drew ?_ | refine blk_alloc ?_ _)); refine blk_put (cs := tk14 ((rd_T24 l0 x7_1).f0) ((rd_T24 l0 x7_1).f1) ((rd_T24 l0 x7_1).f2) ((rd_T24 l0 x7_1).f3) ((rd_T24 l0 x7_1).f4) ((rd_T24 l0 x7_1).f5) ((rd_T24 l0 x7_1).f6) ((rd_T24 l0 x7_1).f7) ((rd_T24 l0 x7_1).f8) ((rd_T24 l0 x7_1).f9) ((rd_T24 l0 x7_1).f10) 0 0 0) ?_ 11 _ rfl; (with_reducible repeat (first | refine blk_drewN ?_ _ | refine blk_drew ?_ | refine blk_alloc ?_ _)); refine blk_put (cs := tk14 ((rd_T24 l0 x7_1).f0) ((rd_T24 l0 x7_1).f1) ((rd_T24 l0 x7_1).f2) ((rd_T24 l0 x7_1).f3) ((rd_T24 l0 x7_1).f4) ((rd_T24 l0 x7_1).f5) ((rd_T24 l0 x7_1).f6) ((rd_T24 l0 x7_1).f7) ((rd_T24 l0 x7_1).f8) ((rd_T24 l0 x7_1).f9) 0 0 0 0) ?_ 10 _ rfl; (with_reducible repeat (first | refine blk_drewN ?_ _ | refine blk_drew ?_ | refine blk_alloc ?_ _)); refine blk_put (cs := tk14 ((rd_T24 l0 x7_1).f0) ((rd_T24 l0 x7_1).f1) ((rd_T24 l0 x7_1).f2) ((rd_T24 l0 x7_1).f3) ((rd_T24 l0 x7_1).f4) ((rd_T24 l0 x7_1).f5) ((rd_T24 l0 x7_1).f6) ((rd_T24 l0 x7_1).f7) ((rd_T24 l0 x7_1).f8) 0 0 0 0 0) ?_ 9 _ rfl; (with_reducible repeat (first | refine blk_drewN ?_ _ | refine blk_drew ?_ | refine blk_alloc ?_ _)); refine blk_put (cs := tk14 ((rd_T24 l0 x7_1).f0) ((rd_T24 l0 x7_1).f1) ((rd_T24 l0 x7_1).f2) ((rd_T24 l0 x7_1).f3) ((rd_T24 l0 x7_1).f4) ((rd_T24 l0 x7_1).f5) ((rd_T24 l0 x7_1).f6) ((rd_T24 l0 x7_1).f7) 0 0 0 0 0 0) ?_ 8 _ rfl; (with_reducible repeat (first | refine blk_drewN ?_ _ | refine blk_drew ?_ | refine blk_alloc ?_ _)); refine blk_put (cs := tk14 ((rd_T24 l0 x7_1).f0) ((rd_T24 l0 x7_1).f1) ((rd_T24 l0 x7_1).f2) ((rd_T24 l0 x7_1).f3) ((rd_T24 l0 x7_1).f4) ((rd_T24 l0 x7_1).f5) ((rd_T24 l0 x7_1).f6) 0 0 0 0 0 0 0) ?_ 7 _ rfl; (with_reducible repeat (first | refine blk_drewN ?_ _ | refine blk_drew ?_ | refine blk_alloc ?_ _)); refine blk_put (cs := tk14 ((rd_T24 l0 x7_1).f0) ((rd_T24 l0 x7_1).f1) ((rd_T24 l0 x7_1).f2) ((rd_T24 l0 x7_1).f3) ((rd_T24 l0 x7_1).f4) ((rd_T24 l0 x7_1).f5) 0 0 0 0 0 0 0 0) ?_ 6 _ rfl; (with_reducible repeat (first | refine blk_drewN ?_ _ | refine blk_drew ?_ | refine blk_alloc ?_ _)); refine blk_put (cs := tk14 ((rd_T24 l0 x7_1).f0) ((rd_T24 l0 x7_1).f1) ((rd_T24 l0 x7_1).f2) ((rd_T24 l0 x7_1).f3) ((rd_T24 l0 x7_1).f4) 0 0 0 0 0 0 0 0 0) ?_ 5 _ rfl; (with_reducible repeat (first | refine blk_drewN ?_ _ | refine blk_drew ?_ | refine blk_alloc ?_ _)); refine blk_put (cs := tk14 ((rd_T24 l0 x7_1).f0) ((rd_T24 l0 x7_1).f1) ((rd_T24 l0 x7_1).f2) ((rd_T24 l0 x7_1).f3) false 0 0 0 0 0 0 0 0 0) ?_ 4 _ rfl; (with_reducible repeat (first | refine blk_drewN ?_ _ | refine blk_drew ?_ | refine blk_alloc ?_ _)); refine blk_put (cs := tk14 ((rd_T24 l0 x7_1).f0) ((rd_T24 l0 x7_1).f1) ((rd_T24 l0 x7_1).f2) 0 false 0 0 0 0 0 0 0 0 0) ?_ 3 _ rfl; (with_reducible repeat (first | refine blk_drewN ?_ _ | refine blk_drew ?_ | refine blk_alloc ?_ _)); refine blk_put (cs := tk14 ((rd_T24 l0 x7_1).f0) ((rd_T24 l0 x7_1).f1) 0 0 false 0 0 0 0 0 0 0 0 0) ?_ 2 _ rfl; (with_reducible repeat (first | refine blk_drewN ?_ _ | refine blk_drew ?_ | refine blk_alloc ?_ _)); refine blk_put (cs := tk14 ((rd_T24 l0 x7_1).f0) 0 0 0 false 0 0 0 0 0 0 0 0 0) ?_ 1 _ rfl; (with_reducible repeat (first | refine blk_drewN ?_ _ | refine blk_drew ?_ | refine blk_alloc ?_ _)); refine blk_put (cs := tk14 0 0 0 0 false 0 0 0 0 0 0 0 0 0) ?_ 0 _ rfl; (with_reducible repeat (first | refine blk_drewN ?_ _ | refine blk_drew ?_ | refine blk_alloc ?_ _)); exact BK614.out⟩
              have n1_ : Aside0 (Below w.heap.size w ((((((((((((((w27.setCell ⟨gb614, 0, none⟩ (.int .i64 ((rd_T24 l0 x7_1).f0))).setCell ⟨gb614, 1, none⟩ (.int .i64 ((rd_T24 l0 x7_1).f1))).setCell ⟨gb614, 2, none⟩ (.int .i64 ((rd_T24 l0 x7_1).f2))).setCell ⟨gb614, 3, none⟩ (.int .i64 ((rd_T24 l0 x7_1).f3))).setCell ⟨gb614, 4, none⟩ (.bool ((rd_T24 l0 x7_1).f4))).setCell ⟨gb614, 5, none⟩ (.int .i64 ((rd_T24 l0 x7_1).f5))).setCell ⟨gb614, 6, none⟩ (.int .i64 ((rd_T24 l0 x7_1).f6))).setCell ⟨gb614, 7, none⟩ (.int .i64 ((rd_T24 l0 x7_1).f7))).setCell ⟨gb614, 8, none⟩ (.int .i64 ((rd_T24 l0 x7_1).f8))).setCell ⟨gb614, 9, none⟩ (.int .i64 ((rd_T24 l0 x7_1).f9))).setCell ⟨gb614, 10, none⟩ (.int .i64 ((rd_T24 l0 x7_1).f10))).setCell ⟨gb614, 11, none⟩ (.int .i64 ((rd_T24 l0 x7_1).f11))).setCell ⟨gb614, 12, none⟩ (.int .i64 ((rd_T24 l0 x7_1).f12))).setCell ⟨gb614, 13, none⟩ (.int .i64 ((rd_T24 l0 x7_1).f13)))) := ⟨by repeat (first | (with_reducible first | exact HB.out | apply below_alloc | apply pw_below_drewN | apply below_drew1 | refine below_set ?_ GE614.out) | exact HB.out)⟩
              (try clear BK614)
              (try clear HB)
              generalize ((((((((((((((w27.setCell ⟨gb614, 0, none⟩ (.int .i64 ((rd_T24 l0 x7_1).f0))).setCell ⟨gb614, 1, none⟩ (.int .i64 ((rd_T24 l0 x7_1).f1))).setCell ⟨gb614, 2, none⟩ (.int .i64 ((rd_T24 l0 x7_1).f2))).setCell ⟨gb614, 3, none⟩ (.int .i64 ((rd_T24 l0 x7_1).f3))).setCell ⟨gb614, 4, none⟩ (.bool ((rd_T24 l0 x7_1).f4))).setCell ⟨gb614, 5, none⟩ (.int .i64 ((rd_T24 l0 x7_1).f5))).setCell ⟨gb614, 6, none⟩ (.int .i64 ((rd_T24 l0 x7_1).f6))).setCell ⟨gb614, 7, none⟩ (.int .i64 ((rd_T24 l0 x7_1).f7))).setCell ⟨gb614, 8, none⟩ (.int .i64 ((rd_T24 l0 x7_1).f8))).setCell ⟨gb614, 9, none⟩ (.int .i64 ((rd_T24 l0 x7_1).f9))).setCell ⟨gb614, 10, none⟩ (.int .i64 ((rd_T24 l0 x7_1).f10))).setCell ⟨gb614, 11, none⟩ (.int .i64 ((rd_T24 l0 x7_1).f11))).setCell ⟨gb614, 12, none⟩ (.int .i64 ((rd_T24 l0 x7_1).f12))).setCell ⟨gb614, 13, none⟩ (.int .i64 ((rd_T24 l0 x7_1).f13))) = w29 at n0_ n1_ ⊢
              have BK614 := n0_
              have HB := n1_
              clear n0_ n1_
              have n0_ := Aside0.mk (blk_drew BK614.out)
              have n1_ := Aside0.mk (below_drew1 HB.out)
              clear BK614
              clear HB
              have BK614 := n0_
              have HB := n1_
              clear n0_ n1_
              refine start_ (n := 18) (S := fun w' => w'.cell? ⟨gb614, 0, none⟩ = some (.int .i64 ((rd_T24 l0 x7_1).f0)) ∧ w'.cell? ⟨gb614, 1, none⟩ = some (.int .i64 ((rd_T24 l0 x7_1).f1)) ∧ w'.cell? ⟨gb614, 2, none⟩ = some (.int .i64 ((rd_T24 l0 x7_1).f2)) ∧ w'.cell? ⟨gb614, 3, none⟩ = some (.int .i64 ((rd_T24 l0 x7_1).f3)) ∧ w'.cell? ⟨gb614, 4, none⟩ = some (.bool ((rd_T24 l0 x7_1).f4)) ∧ w'.cell? ⟨gb614, 5, none⟩ = some (.int .i64 ((rd_T24 l0 x7_1).f5)) ∧ w'.cell? ⟨gb614, 6, none⟩ = some (.int .i64 ((rd_T24 l0 x7_1).f6)) ∧ w'.cell? ⟨gb614, 7, none⟩ = some (.int .i64 ((rd_T24 l0 x7_1).f7)) ∧ w'.cell? ⟨gb614, 8, none⟩ = some (.int .i64 ((rd_T24 l0 x7_1).f8)) ∧ w'.cell? ⟨gb614, 9, none⟩ = some (.int .i64 ((rd_T24 l0 x7_1).f9)) ∧ w'.cell? ⟨gb614, 10, none⟩ = some (.int .i64 ((rd_T24 l0 x7_1).f10)) ∧ w'.cell? ⟨gb614, 11, none⟩ = some (.int .i64 ((rd_T24 l0 x7_1).f11)) ∧ w'.cell? ⟨gb614, 12, none⟩ = some (.int .i64 ((rd_T24 l0 x7_1).f12)) ∧ w'.cell? ⟨gb614, 13, none⟩ = some (.int .i64 ((rd_T24 l0 x7_1).f13))) (ds := []) #[false, false, false, false, false, false, false, false, false, false, false, false, false, false, false, false, false, false] (by kernel_rfl) rfl rfl ⟨(blk_cell BK614.out 0).trans rfl, (blk_cell BK614.out 1).trans rfl, (blk_cell BK614.out 2).trans rfl, (blk_cell BK614.out 3).trans rfl, (blk_cell BK614.out 4).trans rfl, (blk_cell BK614.out 5).trans rfl, (blk_cell BK614.out 6).trans rfl, (blk_cell BK614.out 7).trans rfl, (blk_cell BK614.out 8).trans rfl, (blk_cell BK614.out 9).trans rfl, (blk_cell BK614.out 10).trans rfl, (blk_cell BK614.out 11).trans rfl, (blk_cell BK614.out 12).trans rfl, (blk_cell BK614.out 13).trans rfl⟩ (fun hHeld => ?_); refine with_tabW impl_TasksOk.tab4 impl_TasksOk.bits4 (fun HT_ HW_ => ?_)
              generalize w29.drew = w30 at BK614 HB hHeld ⊢
              refine take_ (i := 0) (N := some 12) (v := ?_) (a' := ?_) #[true, false, false, false, false, false, false, false, false, false, false, false, false, false, false, false, false, false] rfl rfl (take_ofW HT_.out HW_.out (by kernel_rfl)) (fun _ _ _ h => h) (Or.inl ⟨by rfl, ?_⟩) hHeld ?_ ?_
              rotate_left
              · rintro w' ⟨s0, s1, s2, s3, s4, s5, s6, s7, s8, s9, s10, s11, s12, s13⟩
                go_simp
                with_reducible rfl
              rotate_left
              · simp only [Act.put, List.setIfInBounds_toArray, List.set_cons_zero, List.set_cons_succ, i64_w, i32_w]
                rfl
              refine one_ (i := 1) (N := some 13) #[true, true, false, false, false, false, false, false, false, false, false, false, false, false, false, false, false, false] rfl rfl (one_of HT_.out (by kernel_rfl)) (by decide) (fun K hK => ?_)
              refine goes_ Try.func29 (by kernel_rfl) rfl #[.agg #[.int .i64 ((rd_T24 l0 x7_1).f0), .int .i64 ((rd_T24 l0 x7_1).f1), .int .i64 ((rd_T24 l0 x7_1).f2), .int .i64 ((rd_T24 l0 x7_1).f3), .bool ((rd_T24 l0 x7_1).f4), .int .i64 ((rd_T24 l0 x7_1).f5), .int .i64 ((rd_T24 l0 x7_1).f6), .int .i64 ((rd_T24 l0 x7_1).f7), .int .i64 ((rd_T24 l0 x7_1).f8), .int .i64 ((rd_T24 l0 x7_1).f9), .int .i64 ((rd_T24 l0 x7_1).f10), .int .i64 ((rd_T24 l0 x7_1).f11), .int .i64 ((rd_T24 l0 x7_1).f12), .int .i64 ((rd_T24 l0 x7_1).f13)]] (by rfl) rfl rfl (by (try simp only [List.map_toArray, List.map_cons, List.map_nil]); first | done | rfl | (simp only [List.length_drop, List.length_take]; rfl)) ?_
              with_reducible refine (impl_TaskOk.calls ((rd_T24 l0 x7_1).f0) ((rd_T24 l0 x7_1).f1) ((rd_T24 l0 x7_1).f2) ((rd_T24 l0 x7_1).f3) ((rd_T24 l0 x7_1).f4) ((rd_T24 l0 x7_1).f5) ((rd_T24 l0 x7_1).f6) ((rd_T24 l0 x7_1).f7) ((rd_T24 l0 x7_1).f8) ((rd_T24 l0 x7_1).f9) ((rd_T24 l0 x7_1).f10) ((rd_T24 l0 x7_1).f11) ((rd_T24 l0 x7_1).f12) ((rd_T24 l0 x7_1).f13) false _ A5.out).mono ?_
              rintro e w31 ⟨rfl, hb⟩
              refine ⟨_, rfl, ?_⟩
              have n0_ := Aside0.mk (blk_below (g := gb614) (o := .cells (tk14 ((rd_T24 l0 x7_1).f0) ((rd_T24 l0 x7_1).f1) ((rd_T24 l0 x7_1).f2) ((rd_T24 l0 x7_1).f3) ((rd_T24 l0 x7_1).f4) ((rd_T24 l0 x7_1).f5) ((rd_T24 l0 x7_1).f6) ((rd_T24 l0 x7_1).f7) ((rd_T24 l0 x7_1).f8) ((rd_T24 l0 x7_1).f9) ((rd_T24 l0 x7_1).f10) ((rd_T24 l0 x7_1).f11) ((rd_T24 l0 x7_1).f12) ((rd_T24 l0 x7_1).f13)) 24 (0, 0)) (by (with_reducible repeat (first | refine blk_drewN ?_ _ | refine blk_drew ?_ | refine blk_alloc ?_ _)); exact BK614.out) hb)
              have n1_ := Aside0.mk (below_step (by repeat (first | (with_reducible first | exact HB.out | apply below_alloc | apply pw_below_drewN | apply below_drew1 | refine below_set ?_ GE614.out) | exact HB.out)) hb)
              clear BK614
              clear HB
              have BK614 := n0_
              have HB := n1_
              clear n0_ n1_
              (try clear hb)
              (try clear hb2)
              (try clear hk)
              (try clear hi)
              refine hK.out _ _ ⟨(blk_cell BK614.out 0).trans rfl, (blk_cell BK614.out 1).trans rfl, (blk_cell BK614.out 2).trans rfl, (blk_cell BK614.out 3).trans rfl, (blk_cell BK614.out 4).trans rfl, (blk_cell BK614.out 5).trans rfl, (blk_cell BK614.out 6).trans rfl, (blk_cell BK614.out 7).trans rfl, (blk_cell BK614.out 8).trans rfl, (blk_cell BK614.out 9).trans rfl, (blk_cell BK614.out 10).trans rfl, (blk_cell BK614.out 11).trans rfl, (blk_cell BK614.out 12).trans rfl, (blk_cell BK614.out 13).trans rfl⟩ (fun hHeld => ?_)
              clear hK K
              refine norm_ (a' := ?_) ?_ ?_
              rotate_left
              · show Act.put _ (some 13) _ = _
                simp only [Act.put, List.setIfInBounds_toArray, List.set_cons_zero, List.set_cons_succ, i64_w, i32_w]
                rfl
              refine pure_ (i := 2) (N := some 14) (v := ?_) (a' := ?_) #[true, true, true, false, false, false, false, false, false, false, false, false, false, false, false, false, false, false] rfl rfl (any_of HT_.out (by kernel_rfl)) (fun _ _ _ h => h) (Or.inl ⟨by rfl, ?_⟩) ?_ ?_
              rotate_left
              · intro w'
                go_simp
                with_reducible rfl
              rotate_left
              · simp only [Act.put, List.setIfInBounds_toArray, List.set_cons_zero, List.set_cons_succ, i64_w, i32_w]
                rfl
              refine pure_ (i := 3) (N := some 15) (v := ?_) (a' := ?_) #[true, true, true, true, false, false, false, false, false, false, false, false, false, false, false, false, false, false] rfl rfl (any_of HT_.out (by kernel_rfl)) (fun _ _ _ h => h) (Or.inl ⟨by rfl, ?_⟩) ?_ ?_
              rotate_left
              · intro w'
                go_simp
                with_reducible rfl
              rotate_left
              · simp only [Act.put, List.setIfInBounds_toArray, List.set_cons_zero, List.set_cons_succ, i64_w, i32_w]
                rfl
              refine pure_ (i := 4) (N := some 16) (v := undef) (a' := ?_) #[true, true, true, true, true, false, false, false, false, false, false, false, false, false, false, false, false, false] rfl rfl (any_of HT_.out (by kernel_rfl)) (fun _ _ _ h => h) (Or.inr ⟨by rfl, rfl⟩) ?_ ?_
              rotate_left
              · simp only [Act.put, List.setIfInBounds_toArray, List.set_cons_zero, List.set_cons_succ, i64_w, i32_w]
                rfl
              refine pure_ (i := 5) (N := some 17) (v := undef) (a' := ?_) #[true, true, true, true, true, true, false, false, false, false, false, false, false, false, false, false, false, false] rfl rfl (any_of HT_.out (by kernel_rfl)) (fun _ _ _ h => h) (Or.inr ⟨by rfl, rfl⟩) ?_ ?_
              rotate_left
              · simp only [Act.put, List.setIfInBounds_toArray, List.set_cons_zero, List.set_cons_succ, i64_w, i32_w]
                rfl
              refine pure_ (i := 6) (N := some 18) (v := undef) (a' := ?_) #[true, true, true, true, true, true, true, false, false, false, false, false, false, false, false, false, false, false] rfl rfl (any_of HT_.out (by kernel_rfl)) (fun _ _ _ h => h) (Or.inr ⟨by rfl, rfl⟩) ?_ ?_
              rotate_left
              · simp only [Act.put, List.setIfInBounds_toArray, List.set_cons_zero, List.set_cons_succ, i64_w, i32_w]
                rfl
              refine pure_ (i := 7) (N := some 19) (v := undef) (a' := ?_) #[true, true, true, true, true, true, true, true, false, false, false, false, false, false, false, false, false, false] rfl rfl (any_of HT_.out (by kernel_rfl)) (fun _ _ _ h => h) (Or.inr ⟨by rfl, rfl⟩) ?_ ?_
              rotate_left
              · simp only [Act.put, List.setIfInBounds_toArray, List.set_cons_zero, List.set_cons_succ, i64_w, i32_w]
                rfl
              refine pure_ (i := 8) (N := some 20) (v := undef) (a' := ?_) #[true, true, true, true, true, true, true, true, true, false, false, false, false, false, false, false, false, false] rfl rfl (any_of HT_.out (by kernel_rfl)) (fun _ _ _ h => h) (Or.inr ⟨by rfl, rfl⟩) ?_ ?_
              rotate_left
              · simp only [Act.put, List.setIfInBounds_toArray, List.set_cons_zero, List.set_cons_succ, i64_w, i32_w]
                rfl
              refine pure_ (i := 9) (N := some 21) (v := undef) (a' := ?_) #[true, true, true, true, true, true, true, true, true, true, false, false, false, false, false, false, false, false] rfl rfl (any_of HT_.out (by kernel_rfl)) (fun _ _ _ h => h) (Or.inr ⟨by rfl, rfl⟩) ?_ ?_
              rotate_left
              · simp only [Act.put, List.setIfInBounds_toArray, List.set_cons_zero, List.set_cons_succ, i64_w, i32_w]
                rfl
              refine pure_ (i := 10) (N := some 22) (v := undef) (a' := ?_) #[true, true, true, true, true, true, true, true, true, true, true, false, false, false, false, false, false, false] rfl rfl (any_of HT_.out (by kernel_rfl)) (fun _ _ _ h => h) (Or.inr ⟨by rfl, rfl⟩) ?_ ?_
              rotate_left
              · simp only [Act.put, List.setIfInBounds_toArray, List.set_cons_zero, List.set_cons_succ, i64_w, i32_w]
                rfl
              refine pure_ (i := 11) (N := some 23) (v := undef) (a' := ?_) #[true, true, true, true, true, true, true, true, true, true, true, true, false, false, false, false, false, false] rfl rfl (any_of HT_.out (by kernel_rfl)) (fun _ _ _ h => h) (Or.inr ⟨by rfl, rfl⟩) ?_ ?_
              rotate_left
              · simp only [Act.put, List.setIfInBounds_toArray, List.set_cons_zero, List.set_cons_succ, i64_w, i32_w]
                rfl
              refine pure_ (i := 12) (N := some 24) (v := undef) (a' := ?_) #[true, true, true, true, true, true, true, true, true, true, true, true, true, false, false, false, false, false] rfl rfl (any_of HT_.out (by kernel_rfl)) (fun _ _ _ h => h) (Or.inr ⟨by rfl, rfl⟩) ?_ ?_
              rotate_left
              · simp only [Act.put, List.setIfInBounds_toArray, List.set_cons_zero, List.set_cons_succ, i64_w, i32_w]
                rfl
              refine pure_ (i := 13) (N := some 25) (v := undef) (a' := ?_) #[true, true, true, true, true, true, true, true, true, true, true, true, true, true, false, false, false, false] rfl rfl (any_of HT_.out (by kernel_rfl)) (fun _ _ _ h => h) (Or.inr ⟨by rfl, rfl⟩) ?_ ?_
              rotate_left
              · simp only [Act.put, List.setIfInBounds_toArray, List.set_cons_zero, List.set_cons_succ, i64_w, i32_w]
                rfl
              refine pure_ (i := 14) (N := some 26) (v := undef) (a' := ?_) #[true, true, true, true, true, true, true, true, true, true, true, true, true, true, true, false, false, false] rfl rfl (any_of HT_.out (by kernel_rfl)) (fun _ _ _ h => h) (Or.inr ⟨by rfl, rfl⟩) ?_ ?_
              rotate_left
              · simp only [Act.put, List.setIfInBounds_toArray, List.set_cons_zero, List.set_cons_succ, i64_w, i32_w]
                rfl
              refine pure_ (i := 15) (N := some 27) (v := undef) (a' := ?_) #[true, true, true, true, true, true, true, true, true, true, true, true, true, true, true, true, false, false] rfl rfl (any_of HT_.out (by kernel_rfl)) (fun _ _ _ h => h) (Or.inr ⟨by rfl, rfl⟩) ?_ ?_
              rotate_left
              · simp only [Act.put, List.setIfInBounds_toArray, List.set_cons_zero, List.set_cons_succ, i64_w, i32_w]
                rfl
              refine pure_ (i := 16) (N := some 28) (v := undef) (a' := ?_) #[true, true, true, true, true, true, true, true, true, true, true, true, true, true, true, true, true, false] rfl rfl (any_of HT_.out (by kernel_rfl)) (fun _ _ _ h => h) (Or.inr ⟨by rfl, rfl⟩) ?_ ?_
              rotate_left
              · simp only [Act.put, List.setIfInBounds_toArray, List.set_cons_zero, List.set_cons_succ, i64_w, i32_w]
                rfl
              refine pure_ (i := 17) (N := some 29) (v := ?_) (a' := ?_) #[true, true, true, true, true, true, true, true, true, true, true, true, true, true, true, true, true, true] rfl rfl (any_of HT_.out (by kernel_rfl)) (fun _ _ _ h => h) (Or.inl ⟨by rfl, ?_⟩) ?_ ?_
              rotate_left
              · intro w'
                go_simp
                with_reducible rfl
              rotate_left
              · simp only [Act.put, List.setIfInBounds_toArray, List.set_cons_zero, List.set_cons_succ, i64_w, i32_w]
                rfl
              refine done_ (done_of HT_.out (by kernel_rfl)) ?_
              try go_wp2
              go_ret
              exact ⟨by first | rfl | (simp [errW_none, errW_some] <;> rfl) | (simp [*, errW_none, errW_some] <;> rfl), by repeat (first | (with_reducible first | exact HB.out | apply below_alloc | apply pw_below_drewN | apply below_drew1 | refine below_set ?_ GE614.out) | exact HB.out)⟩
          · rw [if_neg c4] at H
            exact absurd H (by simp)
        · rw [if_neg c3] at H
          exact absurd H (by simp)
      · rw [if_neg c2] at H
        have c2b0 : decide (x7_1 < (l0.length : Int)) = false := decide_eq_false c2
        clear c2
        obtain rfl := Option.some.inj H
        go_wp2
        go_ret
        exact ⟨by first | rfl | (simp [errW_none, errW_some] <;> rfl) | (simp [*, errW_none, errW_some] <;> rfl), by repeat (first | (with_reducible first | exact HB.out | apply below_alloc | apply pw_below_drewN | apply below_drew1) | exact HB.out)⟩

end Go.Proofs.Ytnokdjkkgcpbdab.Print
