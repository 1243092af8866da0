/- Go functions as plain Lean functions, and that the Go code answers just as these, wherever they answer. Conditions: those of each theorem. Written by a program of this session (wip/patch.py). -/
import Derived.Test.YtnokdjkkgcpbdabPrint0
import Derived.Test.YtnokdjkkgcpbdabPrint7
import Derived.Test.YtnokdjkkgcpbdabPrint35
namespace Go.Proofs.Ytnokdjkkgcpbdab.Print
open Go.RowKit Go.Proofs.Ytnokdjkkgcpbdab.Base Go.Proofs.YtnokdjkkgcpbdabW.PrintWords Go.Proofs.YtnokdjkkgcpbdabW.PrintLast Go.Proofs.YtnokdjkkgcpbdabW.PrintMore
attribute [local go_sem] max2_int min2_int max_two min_two max_three min_three max_four min_four   -- for this text's walks alone
set_option linter.unusedVariables false
set_option linter.unusedSimpArgs false

/-! ### spec_FairFloor: function 39 -/
def spec_FairFloor.l0 : Nat → List (S24) → Int → Int → Int → Option (Int)
  | 0, _, _, _, _ => none
  | k + 1, x0, x1, x5, x6 => if x6 < (x0.length : Int) then (if 0 ≤ x6 then ((spec_l6Fair.f ((rd_T24 x0 x6).f0) ((rd_T24 x0 x6).f1) ((rd_T24 x0 x6).f2) ((rd_T24 x0 x6).f3) ((rd_T24 x0 x6).f4) ((rd_T24 x0 x6).f5) ((rd_T24 x0 x6).f6) ((rd_T24 x0 x6).f7) ((rd_T24 x0 x6).f8) ((rd_T24 x0 x6).f9) ((rd_T24 x0 x6).f10) ((rd_T24 x0 x6).f11) ((rd_T24 x0 x6).f12) ((rd_T24 x0 x6).f13)).bind fun t774 => (if t774 = true then (if x5 < 0 then (spec_FairFloor.l0 k x0 x1 ((rd_T24 x0 x6).f13) (wrap64 (x6 + 1))) else (if ((rd_T24 x0 x6).f13) < x5 then (spec_FairFloor.l0 k x0 x1 ((rd_T24 x0 x6).f13) (wrap64 (x6 + 1))) else (spec_FairFloor.l0 k x0 x1 x5 (wrap64 (x6 + 1))))) else (spec_FairFloor.l0 k x0 x1 x5 (wrap64 (x6 + 1))))) else (none)) else (if x5 < 0 then (some x1) else ((spec_l1Max.f x1 x5).bind fun t778 => (some t778)))
def spec_FairFloor.f (k : Nat) (l0 : List (S24)) (a1 : Int) : Option (Int) := spec_FairFloor.l0 k l0 a1 (-1) 0
theorem spec_FairFloor.mono_l : ∀ k, (∀ y0 y1 y2 y3, LeO (spec_FairFloor.l0 k y0 y1 y2 y3) (spec_FairFloor.l0 (k + 1) y0 y1 y2 y3))
  | 0 => fun _ _ _ _ r h => by simp [spec_FairFloor.l0] at h
  | k + 1 => by
    have ih0 := spec_FairFloor.mono_l k
    · intro y0 y1 y2 y3
      unfold spec_FairFloor.l0
      repeat' first
      | (with_reducible exact ih0 _ _ _ _)
      | (with_reducible exact LeO.refl _)
      | (with_reducible exact LeO.none _)
      | (with_reducible refine LeO.ite ?_ ?_)
      | (with_reducible refine LeO.bind ?_ (fun _ => ?_))
      | exact ih0 _ _ _ _
      | exact LeO.none _
      | refine LeO.ite ?_ ?_
      | refine LeO.bind ?_ (fun _ => ?_)
theorem spec_FairFloor.mono : ∀ a0 a1 k, LeO (spec_FairFloor.f k a0 a1) (spec_FairFloor.f (k + 1) a0 a1) := by
  intro a0 a1 k
  have ih0 := spec_FairFloor.mono_l k
  unfold spec_FairFloor.f
  repeat' first
      | (with_reducible exact ih0 _ _ _ _)
      | (with_reducible exact LeO.refl _)
      | (with_reducible exact LeO.none _)
      | (with_reducible refine LeO.ite ?_ ?_)
      | (with_reducible refine LeO.bind ?_ (fun _ => ?_))
      | exact ih0 _ _ _ _
      | exact LeO.none _
      | refine LeO.ite ?_ ?_
      | refine LeO.bind ?_ (fun _ => ?_)
set_option maxHeartbeats 8000000 in
set_option maxRecDepth 100000 in
theorem spec_FairFloor.calls (k : Nat) (A0 : Option Addr) (c0 : Nat) (l0 : List (S24)) (a1 : Int) (r : Int) (w : World) (hr0 : Kd.C k24 w A0 l0.length l0) (hc0 : l0.length ≤ c0) (h : spec_FairFloor.f k l0 a1 = some r) :
    Calls Try.prog 39 #[.slice A0 l0.length c0, .int .i64 a1] w fun e w' => e = .returned (.int .i64 r) ∧ Below w.heap.size w w' := by
  have hu24 := Try.underlying24
  have HR0 := Aside0.mk hr0
  have HC0 := Aside0.mk hc0
  clear hr0 hc0
  have HB := Aside0.mk (Below.refl w.heap.size w)
  have H : (spec_FairFloor.l0 k l0 a1 (-1) 0) = some r := h
  clear h
  have H' := Aside0.mk H
  clear H
  go_enter Try.func39, Try.ntmps39
  go_wp2
  go_loopg [5, 6] k (fun kq v5 v6 w' => ∃ (x5_1 : Int) (x6_1 : Int), v5 = .int .i64 x5_1 ∧ v6 = .int .i64 x6_1 ∧ Aside0 (spec_FairFloor.l0 kq l0 a1 x5_1 x6_1 = some r) ∧ Aside0 (kq ≤ k) ∧ Aside0 (Below w.heap.size w w'))
  case atStart => exact ⟨((-1)), (0), (by first | rfl | (simp; done) | (simp [*]; done)), (by first | rfl | (simp; done) | (simp [*]; done)), H', ⟨Nat.le_refl _⟩, ⟨by repeat (first | (with_reducible first | exact HB.out | apply below_alloc | apply pw_below_drewN | apply below_drew1) | exact HB.out)⟩⟩
  case round =>
    clear H'
    try clear p2
    obtain ⟨x5_1, x6_1, rfl, rfl, HA, HK1, HB⟩ := hrel
    cases gk with
    | zero => exact absurd HA.out (by simp [spec_FairFloor.l0])
    | succ k1 =>
      have H := HA.out
      clear HA
      simp only [spec_FairFloor.l0] at H
      by_cases c3 : x6_1 < (l0.length : Int)
      · rw [if_pos c3] at H
        have c3b0 : decide (x6_1 < (l0.length : Int)) = true := decide_eq_true c3
        clear c3
        by_cases c4 : 0 ≤ x6_1
        · rw [if_pos c4] at H
          have c4b0 : decide (0 ≤ x6_1) = true := decide_eq_true c4
          clear c4
          replace H := Option.bind_eq_some_iff.mp H
          obtain ⟨t774, A50, H⟩ := H
          replace H : (if t774 = true then (if x5_1 < 0 then (spec_FairFloor.l0 k1 l0 a1 ((rd_T24 l0 x6_1).f13) (wrap64 (x6_1 + 1))) else (if ((rd_T24 l0 x6_1).f13) < x5_1 then (spec_FairFloor.l0 k1 l0 a1 ((rd_T24 l0 x6_1).f13) (wrap64 (x6_1 + 1))) else (spec_FairFloor.l0 k1 l0 a1 x5_1 (wrap64 (x6_1 + 1))))) else (spec_FairFloor.l0 k1 l0 a1 x5_1 (wrap64 (x6_1 + 1)))) = some r := H
          have A5 := Aside0.mk A50
          clear A50
          by_cases c6 : t774 = true
          · subst c6
            have H1 : (if x5_1 < 0 then (spec_FairFloor.l0 k1 l0 a1 ((rd_T24 l0 x6_1).f13) (wrap64 (x6_1 + 1))) else (if ((rd_T24 l0 x6_1).f13) < x5_1 then (spec_FairFloor.l0 k1 l0 a1 ((rd_T24 l0 x6_1).f13) (wrap64 (x6_1 + 1))) else (spec_FairFloor.l0 k1 l0 a1 x5_1 (wrap64 (x6_1 + 1))))) = some r := by rw [if_pos rfl] at H; exact H
            clear H
            have H := H1
            clear H1
            by_cases c7 : x5_1 < 0
            · rw [if_pos c7] at H
              have c7b0 : decide (x5_1 < 0) = true := decide_eq_true c7
              clear c7
              have H' := Aside0.mk H
              clear H
              have p773 : 0 ≤ (x6_1 : Int) := of_decide_eq_true (by first | (with_reducible assumption) | assumption)
              have q773 : x6_1 < (l0.length : Int) := of_decide_eq_true (by first | (with_reducible assumption) | assumption)
              obtain ⟨ad773, e773, hx773_0, hx773_1, hx773_2, hx773_3, hx773_4, hx773_5, hx773_6, hx773_7, hx773_8, hx773_9, hx773_10, hx773_11, hx773_12, hx773_13⟩ := at_T24 HR0.out x6_1 p773 q773
              cases e773
              replace hx773_0 := (HB.out.cell (World.block_lt_of_cell? w _ hx773_0)).trans hx773_0
              replace hx773_1 := (HB.out.cell (World.block_lt_of_cell? w _ hx773_1)).trans hx773_1
              replace hx773_2 := (HB.out.cell (World.block_lt_of_cell? w _ hx773_2)).trans hx773_2
              replace hx773_3 := (HB.out.cell (World.block_lt_of_cell? w _ hx773_3)).trans hx773_3
              replace hx773_4 := (HB.out.cell (World.block_lt_of_cell? w _ hx773_4)).trans hx773_4
              replace hx773_5 := (HB.out.cell (World.block_lt_of_cell? w _ hx773_5)).trans hx773_5
              replace hx773_6 := (HB.out.cell (World.block_lt_of_cell? w _ hx773_6)).trans hx773_6
              replace hx773_7 := (HB.out.cell (World.block_lt_of_cell? w _ hx773_7)).trans hx773_7
              replace hx773_8 := (HB.out.cell (World.block_lt_of_cell? w _ hx773_8)).trans hx773_8
              replace hx773_9 := (HB.out.cell (World.block_lt_of_cell? w _ hx773_9)).trans hx773_9
              replace hx773_10 := (HB.out.cell (World.block_lt_of_cell? w _ hx773_10)).trans hx773_10
              replace hx773_11 := (HB.out.cell (World.block_lt_of_cell? w _ hx773_11)).trans hx773_11
              replace hx773_12 := (HB.out.cell (World.block_lt_of_cell? w _ hx773_12)).trans hx773_12
              replace hx773_13 := (HB.out.cell (World.block_lt_of_cell? w _ hx773_13)).trans hx773_13
              replace p773 := eq_true p773
              replace q773 := eq_true q773
              go_wp2_with (first | ((with_reducible refine gate_callee (f := 65) rfl ?_); refine goesL_ (some 17) rfl rfl Try.func65 (by kernel_rfl) rfl #[.agg #[.int .i64 ((rd_T24 l0 x6_1).f0), .int .i64 ((rd_T24 l0 x6_1).f1), .int .i64 ((rd_T24 l0 x6_1).f2), .int .i64 ((rd_T24 l0 x6_1).f3), .bool ((rd_T24 l0 x6_1).f4), .int .i64 ((rd_T24 l0 x6_1).f5), .int .i64 ((rd_T24 l0 x6_1).f6), .int .i64 ((rd_T24 l0 x6_1).f7), .int .i64 ((rd_T24 l0 x6_1).f8), .int .i64 ((rd_T24 l0 x6_1).f9), .int .i64 ((rd_T24 l0 x6_1).f10), .int .i64 ((rd_T24 l0 x6_1).f11), .int .i64 ((rd_T24 l0 x6_1).f12), .int .i64 ((rd_T24 l0 x6_1).f13)]] rfl (by (try simp only [List.map_toArray, List.map_cons, List.map_nil]); first | done | rfl | (simp only [List.length_drop, List.length_take]; rfl)) ?_; (with_reducible refine (spec_l6Fair.calls ((rd_T24 l0 x6_1).f0) ((rd_T24 l0 x6_1).f1) ((rd_T24 l0 x6_1).f2) ((rd_T24 l0 x6_1).f3) ((rd_T24 l0 x6_1).f4) ((rd_T24 l0 x6_1).f5) ((rd_T24 l0 x6_1).f6) ((rd_T24 l0 x6_1).f7) ((rd_T24 l0 x6_1).f8) ((rd_T24 l0 x6_1).f9) ((rd_T24 l0 x6_1).f10) ((rd_T24 l0 x6_1).f11) ((rd_T24 l0 x6_1).f12) ((rd_T24 l0 x6_1).f13) true _ A5.out).mono ?_); rintro e w8 ⟨rfl, hb⟩; refine ⟨_, rfl, ?_⟩; have n0_ := Aside0.mk (below_step (by repeat (first | (with_reducible first | exact HB.out | apply below_alloc | apply pw_below_drewN | apply below_drew1) | exact HB.out)) hb); clear HB; have HB := n0_; clear n0_; (try clear hb); (try clear hb2); (try clear hk); (try clear hi); have p775 : 0 ≤ (x6_1 : Int) := of_decide_eq_true (by first | (with_reducible assumption) | assumption); have q775 : x6_1 < (l0.length : Int) := of_decide_eq_true (by first | (with_reducible assumption) | assumption); obtain ⟨ad775, e775, hx775_0, hx775_1, hx775_2, hx775_3, hx775_4, hx775_5, hx775_6, hx775_7, hx775_8, hx775_9, hx775_10, hx775_11, hx775_12, hx775_13⟩ := at_T24 HR0.out x6_1 p775 q775; obtain rfl : ad773 = ad775 := (by injection e775); replace hx775_0 := (HB.out.cell (World.block_lt_of_cell? w _ hx775_0)).trans hx775_0; replace hx775_1 := (HB.out.cell (World.block_lt_of_cell? w _ hx775_1)).trans hx775_1; replace hx775_2 := (HB.out.cell (World.block_lt_of_cell? w _ hx775_2)).trans hx775_2; replace hx775_3 := (HB.out.cell (World.block_lt_of_cell? w _ hx775_3)).trans hx775_3; replace hx775_4 := (HB.out.cell (World.block_lt_of_cell? w _ hx775_4)).trans hx775_4; replace hx775_5 := (HB.out.cell (World.block_lt_of_cell? w _ hx775_5)).trans hx775_5; replace hx775_6 := (HB.out.cell (World.block_lt_of_cell? w _ hx775_6)).trans hx775_6; replace hx775_7 := (HB.out.cell (World.block_lt_of_cell? w _ hx775_7)).trans hx775_7; replace hx775_8 := (HB.out.cell (World.block_lt_of_cell? w _ hx775_8)).trans hx775_8; replace hx775_9 := (HB.out.cell (World.block_lt_of_cell? w _ hx775_9)).trans hx775_9; replace hx775_10 := (HB.out.cell (World.block_lt_of_cell? w _ hx775_10)).trans hx775_10; replace hx775_11 := (HB.out.cell (World.block_lt_of_cell? w _ hx775_11)).trans hx775_11; replace hx775_12 := (HB.out.cell (World.block_lt_of_cell? w _ hx775_12)).trans hx775_12; replace hx775_13 := (HB.out.cell (World.block_lt_of_cell? w _ hx775_13)).trans hx775_13; replace p775 := eq_true p775; replace q775 := eq_true q775))
              go_roundg k1
              case measure => have := HK1.out; omega
              case rel => exact ⟨((rd_T24 l0 x6_1).f13), (wrap64 (x6_1 + 1)), (by first | rfl | (simp; done) | (simp [*]; done)), (by first | rfl | (simp; done) | (simp [*]; done)), H', ⟨by have := HK1.out; omega⟩, ⟨by repeat (first | (with_reducible first | exact HB.out | apply below_alloc | apply pw_below_drewN | apply below_drew1) | exact HB.out)⟩⟩
            · rw [if_neg c7] at H
              have c7b0 : decide (x5_1 < 0) = false := decide_eq_false c7
              clear c7
              by_cases c9 : ((rd_T24 l0 x6_1).f13) < x5_1
              · rw [if_pos c9] at H
                have c9b0 : decide (((rd_T24 l0 x6_1).f13) < x5_1) = true := decide_eq_true c9
                clear c9
                have H' := Aside0.mk H
                clear H
                have p773 : 0 ≤ (x6_1 : Int) := of_decide_eq_true (by first | (with_reducible assumption) | assumption)
                have q773 : x6_1 < (l0.length : Int) := of_decide_eq_true (by first | (with_reducible assumption) | assumption)
                obtain ⟨ad773, e773, hx773_0, hx773_1, hx773_2, hx773_3, hx773_4, hx773_5, hx773_6, hx773_7, hx773_8, hx773_9, hx773_10, hx773_11, hx773_12, hx773_13⟩ := at_T24 HR0.out x6_1 p773 q773
                cases e773
                replace hx773_0 := (HB.out.cell (World.block_lt_of_cell? w _ hx773_0)).trans hx773_0
                replace hx773_1 := (HB.out.cell (World.block_lt_of_cell? w _ hx773_1)).trans hx773_1
                replace hx773_2 := (HB.out.cell (World.block_lt_of_cell? w _ hx773_2)).trans hx773_2
                replace hx773_3 := (HB.out.cell (World.block_lt_of_cell? w _ hx773_3)).trans hx773_3
                replace hx773_4 := (HB.out.cell (World.block_lt_of_cell? w _ hx773_4)).trans hx773_4
                replace hx773_5 := (HB.out.cell (World.block_lt_of_cell? w _ hx773_5)).trans hx773_5
                replace hx773_6 := (HB.out.cell (World.block_lt_of_cell? w _ hx773_6)).trans hx773_6
                replace hx773_7 := (HB.out.cell (World.block_lt_of_cell? w _ hx773_7)).trans hx773_7
                replace hx773_8 := (HB.out.cell (World.block_lt_of_cell? w _ hx773_8)).trans hx773_8
                replace hx773_9 := (HB.out.cell (World.block_lt_of_cell? w _ hx773_9)).trans hx773_9
                replace hx773_10 := (HB.out.cell (World.block_lt_of_cell? w _ hx773_10)).trans hx773_10
                replace hx773_11 := (HB.out.cell (World.block_lt_of_cell? w _ hx773_11)).trans hx773_11
                replace hx773_12 := (HB.out.cell (World.block_lt_of_cell? w _ hx773_12)).trans hx773_12
                replace hx773_13 := (HB.out.cell (World.block_lt_of_cell? w _ hx773_13)).trans hx773_13
                replace p773 := eq_true p773
                replace q773 := eq_true q773
                go_wp2_with (first | ((with_reducible refine gate_callee (f := 65) rfl ?_); refine goesL_ (some 17) rfl rfl Try.func65 (by kernel_rfl) rfl #[.agg #[.int .i64 ((rd_T24 l0 x6_1).f0), .int .i64 ((rd_T24 l0 x6_1).f1), .int .i64 ((rd_T24 l0 x6_1).f2), .int .i64 ((rd_T24 l0 x6_1).f3), .bool ((rd_T24 l0 x6_1).f4), .int .i64 ((rd_T24 l0 x6_1).f5), .int .i64 ((rd_T24 l0 x6_1).f6), .int .i64 ((rd_T24 l0 x6_1).f7), .int .i64 ((rd_T24 l0 x6_1).f8), .int .i64 ((rd_T24 l0 x6_1).f9), .int .i64 ((rd_T24 l0 x6_1).f10), .int .i64 ((rd_T24 l0 x6_1).f11), .int .i64 ((rd_T24 l0 x6_1).f12), .int .i64 ((rd_T24 l0 x6_1).f13)]] rfl (by (try simp only [List.map_toArray, List.map_cons, List.map_nil]); first | done | rfl | (simp only [List.length_drop, List.length_take]; rfl)) ?_; (with_reducible refine (spec_l6Fair.calls ((rd_T24 l0 x6_1).f0) ((rd_T24 l0 x6_1).f1) ((rd_T24 l0 x6_1).f2) ((rd_T24 l0 x6_1).f3) ((rd_T24 l0 x6_1).f4) ((rd_T24 l0 x6_1).f5) ((rd_T24 l0 x6_1).f6) ((rd_T24 l0 x6_1).f7) ((rd_T24 l0 x6_1).f8) ((rd_T24 l0 x6_1).f9) ((rd_T24 l0 x6_1).f10) ((rd_T24 l0 x6_1).f11) ((rd_T24 l0 x6_1).f12) ((rd_T24 l0 x6_1).f13) true _ A5.out).mono ?_); rintro e w10 ⟨rfl, hb⟩; refine ⟨_, rfl, ?_⟩; have n0_ := Aside0.mk (below_step (by repeat (first | (with_reducible first | exact HB.out | apply below_alloc | apply pw_below_drewN | apply below_drew1) | exact HB.out)) hb); clear HB; have HB := n0_; clear n0_; (try clear hb); (try clear hb2); (try clear hk); (try clear hi); have p776 : 0 ≤ (x6_1 : Int) := of_decide_eq_true (by first | (with_reducible assumption) | assumption); have q776 : x6_1 < (l0.length : Int) := of_decide_eq_true (by first | (with_reducible assumption) | assumption); obtain ⟨ad776, e776, hx776_0, hx776_1, hx776_2, hx776_3, hx776_4, hx776_5, hx776_6, hx776_7, hx776_8, hx776_9, hx776_10, hx776_11, hx776_12, hx776_13⟩ := at_T24 HR0.out x6_1 p776 q776; obtain rfl : ad773 = ad776 := (by injection e776); replace hx776_0 := (HB.out.cell (World.block_lt_of_cell? w _ hx776_0)).trans hx776_0; replace hx776_1 := (HB.out.cell (World.block_lt_of_cell? w _ hx776_1)).trans hx776_1; replace hx776_2 := (HB.out.cell (World.block_lt_of_cell? w _ hx776_2)).trans hx776_2; replace hx776_3 := (HB.out.cell (World.block_lt_of_cell? w _ hx776_3)).trans hx776_3; replace hx776_4 := (HB.out.cell (World.block_lt_of_cell? w _ hx776_4)).trans hx776_4; replace hx776_5 := (HB.out.cell (World.block_lt_of_cell? w _ hx776_5)).trans hx776_5; replace hx776_6 := (HB.out.cell (World.block_lt_of_cell? w _ hx776_6)).trans hx776_6; replace hx776_7 := (HB.out.cell (World.block_lt_of_cell? w _ hx776_7)).trans hx776_7; replace hx776_8 := (HB.out.cell (World.block_lt_of_cell? w _ hx776_8)).trans hx776_8; replace hx776_9 := (HB.out.cell (World.block_lt_of_cell? w _ hx776_9)).trans hx776_9; replace hx776_10 := (HB.out.cell (World.block_lt_of_cell? w _ hx776_10)).trans hx776_10; replace hx776_11 := (HB.out.cell (World.block_lt_of_cell? w _ hx776_11)).trans hx776_11; replace hx776_12 := (HB.out.cell (World.block_lt_of_cell? w _ hx776_12)).trans hx776_12; replace hx776_13 := (HB.out.cell (World.block_lt_of_cell? w _ hx776_13)).trans hx776_13; replace p776 := eq_true p776; replace q776 := eq_true q776; have p777 : 0 ≤ (x6_1 : Int) := of_decide_eq_true (by first | (with_reducible assumption) | assumption); have q777 : x6_1 < (l0.length : Int) := of_decide_eq_true (by first | (with_reducible assumption) | assumption); obtain ⟨ad777, e777, hx777_0, hx777_1, hx777_2, hx777_3, hx777_4, hx777_5, hx777_6, hx777_7, hx777_8, hx777_9, hx777_10, hx777_11, hx777_12, hx777_13⟩ := at_T24 HR0.out x6_1 p777 q777; obtain rfl : ad773 = ad777 := (by injection e777); replace hx777_0 := (HB.out.cell (World.block_lt_of_cell? w _ hx777_0)).trans hx777_0; replace hx777_1 := (HB.out.cell (World.block_lt_of_cell? w _ hx777_1)).trans hx777_1; replace hx777_2 := (HB.out.cell (World.block_lt_of_cell? w _ hx777_2)).trans hx777_2; replace hx777_3 := (HB.out.cell (World.block_lt_of_cell? w _ hx777_3)).trans hx777_3; replace hx777_4 := (HB.out.cell (World.block_lt_of_cell? w _ hx777_4)).trans hx777_4; replace hx777_5 := (HB.out.cell (World.block_lt_of_cell? w _ hx777_5)).trans hx777_5; replace hx777_6 := (HB.out.cell (World.block_lt_of_cell? w _ hx777_6)).trans hx777_6; replace hx777_7 := (HB.out.cell (World.block_lt_of_cell? w _ hx777_7)).trans hx777_7; replace hx777_8 := (HB.out.cell (World.block_lt_of_cell? w _ hx777_8)).trans hx777_8; replace hx777_9 := (HB.out.cell (World.block_lt_of_cell? w _ hx777_9)).trans hx777_9; replace hx777_10 := (HB.out.cell (World.block_lt_of_cell? w _ hx777_10)).trans hx777_10; replace hx777_11 := (HB.out.cell (World.block_lt_of_cell? w _ hx777_11)).trans hx777_11; replace hx777_12 := (HB.out.cell (World.block_lt_of_cell? w _ hx777_12)).trans hx777_12; replace hx777_13 := (HB.out.cell (World.block_lt_of_cell? w _ hx777_13)).trans hx777_13; replace p777 := eq_true p777; replace q777 := eq_true q777))
                go_roundg k1
                case measure => have := HK1.out; omega
                case rel => exact ⟨((rd_T24 l0 x6_1).f13), (wrap64 (x6_1 + 1)), (by first | rfl | (simp; done) | (simp [*]; done)), (by first | rfl | (simp; done) | (simp [*]; done)), H', ⟨by have := HK1.out; omega⟩, ⟨by repeat (first | (with_reducible first | exact HB.out | apply below_alloc | apply pw_below_drewN | apply below_drew1) | exact HB.out)⟩⟩
              · rw [if_neg c9] at H
                have c9b0 : decide (((rd_T24 l0 x6_1).f13) < x5_1) = false := decide_eq_false c9
                clear c9
                have H' := Aside0.mk H
                clear H
                have p773 : 0 ≤ (x6_1 : Int) := of_decide_eq_true (by first | (with_reducible assumption) | assumption)
                have q773 : x6_1 < (l0.length : Int) := of_decide_eq_true (by first | (with_reducible assumption) | assumption)
                obtain ⟨ad773, e773, hx773_0, hx773_1, hx773_2, hx773_3, hx773_4, hx773_5, hx773_6, hx773_7, hx773_8, hx773_9, hx773_10, hx773_11, hx773_12, hx773_13⟩ := at_T24 HR0.out x6_1 p773 q773
                cases e773
                replace hx773_0 := (HB.out.cell (World.block_lt_of_cell? w _ hx773_0)).trans hx773_0
                replace hx773_1 := (HB.out.cell (World.block_lt_of_cell? w _ hx773_1)).trans hx773_1
                replace hx773_2 := (HB.out.cell (World.block_lt_of_cell? w _ hx773_2)).trans hx773_2
                replace hx773_3 := (HB.out.cell (World.block_lt_of_cell? w _ hx773_3)).trans hx773_3
                replace hx773_4 := (HB.out.cell (World.block_lt_of_cell? w _ hx773_4)).trans hx773_4
                replace hx773_5 := (HB.out.cell (World.block_lt_of_cell? w _ hx773_5)).trans hx773_5
                replace hx773_6 := (HB.out.cell (World.block_lt_of_cell? w _ hx773_6)).trans hx773_6
                replace hx773_7 := (HB.out.cell (World.block_lt_of_cell? w _ hx773_7)).trans hx773_7
                replace hx773_8 := (HB.out.cell (World.block_lt_of_cell? w _ hx773_8)).trans hx773_8
                replace hx773_9 := (HB.out.cell (World.block_lt_of_cell? w _ hx773_9)).trans hx773_9
                replace hx773_10 := (HB.out.cell (World.block_lt_of_cell? w _ hx773_10)).trans hx773_10
                replace hx773_11 := (HB.out.cell (World.block_lt_of_cell? w _ hx773_11)).trans hx773_11
                replace hx773_12 := (HB.out.cell (World.block_lt_of_cell? w _ hx773_12)).trans hx773_12
                replace hx773_13 := (HB.out.cell (World.block_lt_of_cell? w _ hx773_13)).trans hx773_13
                replace p773 := eq_true p773
                replace q773 := eq_true q773
                go_wp2_with (first | ((with_reducible refine gate_callee (f := 65) rfl ?_); refine goesL_ (some 17) rfl rfl Try.func65 (by kernel_rfl) rfl #[.agg #[.int .i64 ((rd_T24 l0 x6_1).f0), .int .i64 ((rd_T24 l0 x6_1).f1), .int .i64 ((rd_T24 l0 x6_1).f2), .int .i64 ((rd_T24 l0 x6_1).f3), .bool ((rd_T24 l0 x6_1).f4), .int .i64 ((rd_T24 l0 x6_1).f5), .int .i64 ((rd_T24 l0 x6_1).f6), .int .i64 ((rd_T24 l0 x6_1).f7), .int .i64 ((rd_T24 l0 x6_1).f8), .int .i64 ((rd_T24 l0 x6_1).f9), .int .i64 ((rd_T24 l0 x6_1).f10), .int .i64 ((rd_T24 l0 x6_1).f11), .int .i64 ((rd_T24 l0 x6_1).f12), .int .i64 ((rd_T24 l0 x6_1).f13)]] rfl (by (try simp only [List.map_toArray, List.map_cons, List.map_nil]); first | done | rfl | (simp only [List.length_drop, List.length_take]; rfl)) ?_; (with_reducible refine (spec_l6Fair.calls ((rd_T24 l0 x6_1).f0) ((rd_T24 l0 x6_1).f1) ((rd_T24 l0 x6_1).f2) ((rd_T24 l0 x6_1).f3) ((rd_T24 l0 x6_1).f4) ((rd_T24 l0 x6_1).f5) ((rd_T24 l0 x6_1).f6) ((rd_T24 l0 x6_1).f7) ((rd_T24 l0 x6_1).f8) ((rd_T24 l0 x6_1).f9) ((rd_T24 l0 x6_1).f10) ((rd_T24 l0 x6_1).f11) ((rd_T24 l0 x6_1).f12) ((rd_T24 l0 x6_1).f13) true _ A5.out).mono ?_); rintro e w11 ⟨rfl, hb⟩; refine ⟨_, rfl, ?_⟩; have n0_ := Aside0.mk (below_step (by repeat (first | (with_reducible first | exact HB.out | apply below_alloc | apply pw_below_drewN | apply below_drew1) | exact HB.out)) hb); clear HB; have HB := n0_; clear n0_; (try clear hb); (try clear hb2); (try clear hk); (try clear hi); have p776 : 0 ≤ (x6_1 : Int) := of_decide_eq_true (by first | (with_reducible assumption) | assumption); have q776 : x6_1 < (l0.length : Int) := of_decide_eq_true (by first | (with_reducible assumption) | assumption); obtain ⟨ad776, e776, hx776_0, hx776_1, hx776_2, hx776_3, hx776_4, hx776_5, hx776_6, hx776_7, hx776_8, hx776_9, hx776_10, hx776_11, hx776_12, hx776_13⟩ := at_T24 HR0.out x6_1 p776 q776; obtain rfl : ad773 = ad776 := (by injection e776); replace hx776_0 := (HB.out.cell (World.block_lt_of_cell? w _ hx776_0)).trans hx776_0; replace hx776_1 := (HB.out.cell (World.block_lt_of_cell? w _ hx776_1)).trans hx776_1; replace hx776_2 := (HB.out.cell (World.block_lt_of_cell? w _ hx776_2)).trans hx776_2; replace hx776_3 := (HB.out.cell (World.block_lt_of_cell? w _ hx776_3)).trans hx776_3; replace hx776_4 := (HB.out.cell (World.block_lt_of_cell? w _ hx776_4)).trans hx776_4; replace hx776_5 := (HB.out.cell (World.block_lt_of_cell? w _ hx776_5)).trans hx776_5; replace hx776_6 := (HB.out.cell (World.block_lt_of_cell? w _ hx776_6)).trans hx776_6; replace hx776_7 := (HB.out.cell (World.block_lt_of_cell? w _ hx776_7)).trans hx776_7; replace hx776_8 := (HB.out.cell (World.block_lt_of_cell? w _ hx776_8)).trans hx776_8; replace hx776_9 := (HB.out.cell (World.block_lt_of_cell? w _ hx776_9)).trans hx776_9; replace hx776_10 := (HB.out.cell (World.block_lt_of_cell? w _ hx776_10)).trans hx776_10; replace hx776_11 := (HB.out.cell (World.block_lt_of_cell? w _ hx776_11)).trans hx776_11; replace hx776_12 := (HB.out.cell (World.block_lt_of_cell? w _ hx776_12)).trans hx776_12; replace hx776_13 := (HB.out.cell (World.block_lt_of_cell? w _ hx776_13)).trans hx776_13; replace p776 := eq_true p776; replace q776 := eq_true q776))
                go_roundg k1
                case measure => have := HK1.out; omega
                case rel => exact ⟨(x5_1), (wrap64 (x6_1 + 1)), (by first | rfl | (simp; done) | (simp [*]; done)), (by first | rfl | (simp; done) | (simp [*]; done)), H', ⟨by have := HK1.out; omega⟩, ⟨by repeat (first | (with_reducible first | exact HB.out | apply below_alloc | apply pw_below_drewN | apply below_drew1) | exact HB.out)⟩⟩
          · replace c6 := Bool.eq_false_iff.mpr c6
            subst c6
            have H1 : (spec_FairFloor.l0 k1 l0 a1 x5_1 (wrap64 (x6_1 + 1))) = some r := by rw [if_neg (show ¬ (false = true) by decide)] at H; exact H
            clear H
            have H := H1
            clear H1
            have H' := Aside0.mk H
            clear H
            have p773 : 0 ≤ (x6_1 : Int) := of_decide_eq_true (by first | (with_reducible assumption) | assumption)
            have q773 : x6_1 < (l0.length : Int) := of_decide_eq_true (by first | (with_reducible assumption) | assumption)
            obtain ⟨ad773, e773, hx773_0, hx773_1, hx773_2, hx773_3, hx773_4, hx773_5, hx773_6, hx773_7, hx773_8, hx773_9, hx773_10, hx773_11, hx773_12, hx773_13⟩ := at_T24 HR0.out x6_1 p773 q773
            cases e773
            replace hx773_0 := (HB.out.cell (World.block_lt_of_cell? w _ hx773_0)).trans hx773_0
            replace hx773_1 := (HB.out.cell (World.block_lt_of_cell? w _ hx773_1)).trans hx773_1
            replace hx773_2 := (HB.out.cell (World.block_lt_of_cell? w _ hx773_2)).trans hx773_2
            replace hx773_3 := (HB.out.cell (World.block_lt_of_cell? w _ hx773_3)).trans hx773_3
            replace hx773_4 := (HB.out.cell (World.block_lt_of_cell? w _ hx773_4)).trans hx773_4
            replace hx773_5 := (HB.out.cell (World.block_lt_of_cell? w _ hx773_5)).trans hx773_5
            replace hx773_6 := (HB.out.cell (World.block_lt_of_cell? w _ hx773_6)).trans hx773_6
            replace hx773_7 := (HB.out.cell (World.block_lt_of_cell? w _ hx773_7)).trans hx773_7
            replace hx773_8 := (HB.out.cell (World.block_lt_of_cell? w _ hx773_8)).trans hx773_8
            replace hx773_9 := (HB.out.cell (World.block_lt_of_cell? w _ hx773_9)).trans hx773_9
            replace hx773_10 := (HB.out.cell (World.block_lt_of_cell? w _ hx773_10)).trans hx773_10
            replace hx773_11 := (HB.out.cell (World.block_lt_of_cell? w _ hx773_11)).trans hx773_11
            replace hx773_12 := (HB.out.cell (World.block_lt_of_cell? w _ hx773_12)).trans hx773_12
            replace hx773_13 := (HB.out.cell (World.block_lt_of_cell? w _ hx773_13)).trans hx773_13
            replace p773 := eq_true p773
            replace q773 := eq_true q773
            go_wp2_with (first | ((with_reducible refine gate_callee (f := 65) rfl ?_); refine goesL_ (some 17) rfl rfl Try.func65 (by kernel_rfl) rfl #[.agg #[.int .i64 ((rd_T24 l0 x6_1).f0), .int .i64 ((rd_T24 l0 x6_1).f1), .int .i64 ((rd_T24 l0 x6_1).f2), .int .i64 ((rd_T24 l0 x6_1).f3), .bool ((rd_T24 l0 x6_1).f4), .int .i64 ((rd_T24 l0 x6_1).f5), .int .i64 ((rd_T24 l0 x6_1).f6), .int .i64 ((rd_T24 l0 x6_1).f7), .int .i64 ((rd_T24 l0 x6_1).f8), .int .i64 ((rd_T24 l0 x6_1).f9), .int .i64 ((rd_T24 l0 x6_1).f10), .int .i64 ((rd_T24 l0 x6_1).f11), .int .i64 ((rd_T24 l0 x6_1).f12), .int .i64 ((rd_T24 l0 x6_1).f13)]] rfl (by (try simp only [List.map_toArray, List.map_cons, List.map_nil]); first | done | rfl | (simp only [List.length_drop, List.length_take]; rfl)) ?_; (with_reducible refine (spec_l6Fair.calls ((rd_T24 l0 x6_1).f0) ((rd_T24 l0 x6_1).f1) ((rd_T24 l0 x6_1).f2) ((rd_T24 l0 x6_1).f3) ((rd_T24 l0 x6_1).f4) ((rd_T24 l0 x6_1).f5) ((rd_T24 l0 x6_1).f6) ((rd_T24 l0 x6_1).f7) ((rd_T24 l0 x6_1).f8) ((rd_T24 l0 x6_1).f9) ((rd_T24 l0 x6_1).f10) ((rd_T24 l0 x6_1).f11) ((rd_T24 l0 x6_1).f12) ((rd_T24 l0 x6_1).f13) false _ A5.out).mono ?_); rintro e w12 ⟨rfl, hb⟩; refine ⟨_, rfl, ?_⟩; have n0_ := Aside0.mk (below_step (by repeat (first | (with_reducible first | exact HB.out | apply below_alloc | apply pw_below_drewN | apply below_drew1) | exact HB.out)) hb); clear HB; have HB := n0_; clear n0_; (try clear hb); (try clear hb2); (try clear hk); (try clear hi)))
            go_roundg k1
            case measure => have := HK1.out; omega
            case rel => exact ⟨(x5_1), (wrap64 (x6_1 + 1)), (by first | rfl | (simp; done) | (simp [*]; done)), (by first | rfl | (simp; done) | (simp [*]; done)), H', ⟨by have := HK1.out; omega⟩, ⟨by repeat (first | (with_reducible first | exact HB.out | apply below_alloc | apply pw_below_drewN | apply below_drew1) | exact HB.out)⟩⟩
        · rw [if_neg c4] at H
          exact absurd H (by simp)
      · rw [if_neg c3] at H
        have c3b0 : decide (x6_1 < (l0.length : Int)) = false := decide_eq_false c3
        clear c3
        by_cases c13 : x5_1 < 0
        · rw [if_pos c13] at H
          have c13b0 : decide (x5_1 < 0) = true := decide_eq_true c13
          clear c13
          obtain rfl := Option.some.inj H
          go_wp2
          go_ret
          exact ⟨by first | rfl | (simp [errW_none, errW_some] <;> rfl) | (simp [*, errW_none, errW_some] <;> rfl), by repeat (first | (with_reducible first | exact HB.out | apply below_alloc | apply pw_below_drewN | apply below_drew1) | exact HB.out)⟩
        · rw [if_neg c13] at H
          have c13b0 : decide (x5_1 < 0) = false := decide_eq_false c13
          clear c13
          replace H := Option.bind_eq_some_iff.mp H
          obtain ⟨t778, A140, H⟩ := H
          replace H : (some t778) = some r := H
          have A14 := Aside0.mk A140
          clear A140
          obtain rfl := Option.some.inj H
          go_wp2_with (first | ((with_reducible refine gate_callee (f := 67) rfl ?_); refine goesL_ (some 41) rfl rfl Try.func67 (by kernel_rfl) rfl #[.int .i64 a1, .int .i64 x5_1] rfl (by (try simp only [List.map_toArray, List.map_cons, List.map_nil]); first | done | rfl | (simp only [List.length_drop, List.length_take]; rfl)) ?_; (with_reducible refine (spec_l1Max.calls a1 x5_1 t778 _ A14.out).mono ?_); rintro e w' ⟨rfl, ⟨nd, rfl⟩⟩; refine ⟨_, rfl, ?_⟩))
          go_ret
          exact ⟨by first | rfl | (simp [errW_none, errW_some] <;> rfl) | (simp [*, errW_none, errW_some] <;> rfl), by repeat (first | (with_reducible first | exact HB.out | apply below_alloc | apply pw_below_drewN | apply below_drew1) | exact HB.out)⟩

/-! ### impl_FairFloor: function 40 -/
def impl_FairFloor.f (k : Nat) (l0 : List (S24)) (a1 : Int) : Option (Int) := (impl_ends.f k l0).bind fun bt779 => (if bt779.2.2 = true then (some (mx a1 bt779.1)) else (some a1))
theorem impl_FairFloor.mono : ∀ a0 a1 k, LeO (impl_FairFloor.f k a0 a1) (impl_FairFloor.f (k + 1) a0 a1) := by
  intro a0 a1 k
  unfold impl_FairFloor.f
  repeat' first
      | (with_reducible exact impl_ends.mono _ _)
      | (with_reducible exact LeO.refl _)
      | (with_reducible exact LeO.none _)
      | (with_reducible refine LeO.ite ?_ ?_)
      | (with_reducible refine LeO.bind ?_ (fun _ => ?_))
      | exact impl_ends.mono _ _
      | exact LeO.none _
      | refine LeO.ite ?_ ?_
      | refine LeO.bind ?_ (fun _ => ?_)
set_option maxHeartbeats 8000000 in
set_option maxRecDepth 100000 in
theorem impl_FairFloor.calls (k : Nat) (A0 : Option Addr) (c0 : Nat) (l0 : List (S24)) (a1 : Int) (r : Int) (w : World) (hr0 : Kd.C k24 w A0 l0.length l0) (hc0 : l0.length ≤ c0) (h : impl_FairFloor.f k l0 a1 = some r) :
    Calls Try.prog 40 #[.slice A0 l0.length c0, .int .i64 a1] w fun e w' => e = .returned (.int .i64 r) ∧ Below w.heap.size w w' := by
  have HR0 := Aside0.mk hr0
  have HC0 := Aside0.mk hc0
  clear hr0 hc0
  have HB := Aside0.mk (Below.refl w.heap.size w)
  have H : ((impl_ends.f k l0).bind fun bt779 => (if bt779.2.2 = true then (some (mx a1 bt779.1)) else (some a1))) = some r := h
  clear h
  replace H := Option.bind_eq_some_iff.mp H
  obtain ⟨⟨t779, t780, t781⟩, A30, H⟩ := H
  replace H : (if t781 = true then (some (mx a1 t779)) else (some a1)) = some r := H
  have A3 := Aside0.mk A30
  clear A30
  by_cases c4 : t781 = true
  · subst c4
    have H1 : (some (mx a1 t779)) = some r := by rw [if_pos rfl] at H; exact H
    clear H
    have H := H1
    clear H1
    obtain ⟨ji5, hji5⟩ : ∃ j_ : Int, (mx a1 t779) = j_ := ⟨_, rfl⟩
    replace H : (some ji5) = some r := by first | (rw [hji5] at H; exact H) | (simp only [hji5] at H ⊢; exact H)
    (try rw [hji5] at A3)
    have hji5_ : (if a1 < t779 then t779 else a1) = ji5 := hji5
    obtain rfl := Option.some.inj H
    go_enter Try.func40, Try.ntmps40
    go_wp2_with (first | ((with_reducible refine gate_callee (f := 87) rfl ?_); refine goesL_ (some 10) rfl rfl Try.func87 (by kernel_rfl) rfl #[.slice A0 l0.length c0] rfl (by (try simp only [List.map_toArray, List.map_cons, List.map_nil]); first | done | rfl | (simp only [List.length_drop, List.length_take]; rfl)) ?_; (with_reducible refine (impl_ends.calls k _ _ l0 t779 t780 true _ ?side1 ?side2 A3.out).mono ?_); (case side1 => repeat (first | exact HR0.out | (with_reducible refine Kd.C_alloc ?_ _) | (with_reducible refine Kd.C_drewN ?_ _) | (with_reducible refine Kd.C_drew ?_))); (case side2 => exact HC0.out); rintro e w6 ⟨rfl, hb⟩; refine ⟨_, rfl, ?_⟩; have n0_ := Aside0.mk (below_step (by repeat (first | (with_reducible first | exact HB.out | apply below_alloc | apply pw_below_drewN | apply below_drew1) | exact HB.out)) hb); clear HB; have HB := n0_; clear n0_; (try clear hb); (try clear hb2); (try clear hk); (try clear hi)))
    go_ret
    exact ⟨by first | rfl | (simp [errW_none, errW_some] <;> rfl) | (simp only [← hji5]; first | rfl | (simp [errW_none, errW_some] <;> rfl)) | (simp [*, errW_none, errW_some] <;> rfl), by repeat (first | (with_reducible first | exact HB.out | apply below_alloc | apply pw_below_drewN | apply below_drew1) | exact HB.out)⟩
  · replace c4 := Bool.eq_false_iff.mpr c4
    subst c4
    have H1 : (some a1) = some r := by rw [if_neg (show ¬ (false = true) by decide)] at H; exact H
    clear H
    have H := H1
    clear H1
    obtain rfl := Option.some.inj H
    go_enter Try.func40, Try.ntmps40
    go_wp2_with (first | ((with_reducible refine gate_callee (f := 87) rfl ?_); refine goesL_ (some 10) rfl rfl Try.func87 (by kernel_rfl) rfl #[.slice A0 l0.length c0] rfl (by (try simp only [List.map_toArray, List.map_cons, List.map_nil]); first | done | rfl | (simp only [List.length_drop, List.length_take]; rfl)) ?_; (with_reducible refine (impl_ends.calls k _ _ l0 t779 t780 false _ ?side1 ?side2 A3.out).mono ?_); (case side1 => repeat (first | exact HR0.out | (with_reducible refine Kd.C_alloc ?_ _) | (with_reducible refine Kd.C_drewN ?_ _) | (with_reducible refine Kd.C_drew ?_))); (case side2 => exact HC0.out); rintro e w7 ⟨rfl, hb⟩; refine ⟨_, rfl, ?_⟩; have n0_ := Aside0.mk (below_step (by repeat (first | (with_reducible first | exact HB.out | apply below_alloc | apply pw_below_drewN | apply below_drew1) | exact HB.out)) hb); clear HB; have HB := n0_; clear n0_; (try clear hb); (try clear hb2); (try clear hk); (try clear hi)))
    go_ret
    exact ⟨by first | rfl | (simp [errW_none, errW_some] <;> rfl) | (simp [*, errW_none, errW_some] <;> rfl), by repeat (first | (with_reducible first | exact HB.out | apply below_alloc | apply pw_below_drewN | apply below_drew1) | exact HB.out)⟩

end Go.Proofs.Ytnokdjkkgcpbdab.Print
