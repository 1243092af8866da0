/- Go functions as plain Lean functions, and that the Go code answers just as these, wherever they answer. Conditions: those of each theorem. Written by a program of this session (wip/patch.py). -/
import Derived.Test.YtnokdjkkgcpbdabPrint0
import Derived.Test.YtnokdjkkgcpbdabPrint7
namespace Go.Proofs.Ytnokdjkkgcpbdab.Print
open Go.RowKit Go.Proofs.Ytnokdjkkgcpbdab.Base Go.Proofs.YtnokdjkkgcpbdabW.PrintWords Go.Proofs.YtnokdjkkgcpbdabW.PrintLast Go.Proofs.YtnokdjkkgcpbdabW.PrintMore
attribute [local go_sem] max2_int min2_int max_two min_two max_three min_three max_four min_four   -- for this text's walks alone
set_option linter.unusedVariables false
set_option linter.unusedSimpArgs false

/-! ### spec_FairSpread: function 37 -/
def spec_FairSpread.l0 : Nat → List (S24) → Int → Int → Int → Option (Int)
  | 0, _, _, _, _ => none
  | k + 1, x0, x3, x4, x5 => if x5 < (x0.length : Int) then (if 0 ≤ x5 then ((spec_l6Fair.f ((rd_T24 x0 x5).f0) ((rd_T24 x0 x5).f1) ((rd_T24 x0 x5).f2) ((rd_T24 x0 x5).f3) ((rd_T24 x0 x5).f4) ((rd_T24 x0 x5).f5) ((rd_T24 x0 x5).f6) ((rd_T24 x0 x5).f7) ((rd_T24 x0 x5).f8) ((rd_T24 x0 x5).f9) ((rd_T24 x0 x5).f10) ((rd_T24 x0 x5).f11) ((rd_T24 x0 x5).f12) ((rd_T24 x0 x5).f13)).bind fun t744 => (if t744 = true then (if x3 < 0 then ((spec_l1Max.f x4 ((rd_T24 x0 x5).f13)).bind fun t747 => (spec_FairSpread.l0 k x0 ((rd_T24 x0 x5).f13) t747 (wrap64 (x5 + 1)))) else (if ((rd_T24 x0 x5).f13) < x3 then ((spec_l1Max.f x4 ((rd_T24 x0 x5).f13)).bind fun t751 => (spec_FairSpread.l0 k x0 ((rd_T24 x0 x5).f13) t751 (wrap64 (x5 + 1)))) else ((spec_l1Max.f x4 ((rd_T24 x0 x5).f13)).bind fun t753 => (spec_FairSpread.l0 k x0 x3 t753 (wrap64 (x5 + 1)))))) else (spec_FairSpread.l0 k x0 x3 x4 (wrap64 (x5 + 1))))) else (none)) else (some (wrap64 (x4 - x3)))
def spec_FairSpread.f (k : Nat) (l0 : List (S24)) : Option (Int) := spec_FairSpread.l0 k l0 (-1) (-1) 0
theorem spec_FairSpread.mono_l : ∀ k, (∀ y0 y1 y2 y3, LeO (spec_FairSpread.l0 k y0 y1 y2 y3) (spec_FairSpread.l0 (k + 1) y0 y1 y2 y3))
  | 0 => fun _ _ _ _ r h => by simp [spec_FairSpread.l0] at h
  | k + 1 => by
    have ih0 := spec_FairSpread.mono_l k
    · intro y0 y1 y2 y3
      unfold spec_FairSpread.l0
      repeat' first
      | (with_reducible exact ih0 _ _ _ _)
      | (with_reducible exact LeO.refl _)
      | (with_reducible exact LeO.none _)
      | (with_reducible refine LeO.ite ?_ ?_)
      | (with_reducible refine LeO.bind ?_ (fun _ => ?_))
      | exact ih0 _ _ _ _
      | exact LeO.none _
      | refine LeO.ite ?_ ?_
      | refine LeO.bind ?_ (fun _ => ?_)
theorem spec_FairSpread.mono : ∀ a0 k, LeO (spec_FairSpread.f k a0) (spec_FairSpread.f (k + 1) a0) := by
  intro a0 k
  have ih0 := spec_FairSpread.mono_l k
  unfold spec_FairSpread.f
  repeat' first
      | (with_reducible exact ih0 _ _ _ _)
      | (with_reducible exact LeO.refl _)
      | (with_reducible exact LeO.none _)
      | (with_reducible refine LeO.ite ?_ ?_)
      | (with_reducible refine LeO.bind ?_ (fun _ => ?_))
      | exact ih0 _ _ _ _
      | exact LeO.none _
      | refine LeO.ite ?_ ?_
      | refine LeO.bind ?_ (fun _ => ?_)
set_option maxHeartbeats 8000000 in
set_option maxRecDepth 100000 in
theorem spec_FairSpread.calls (k : Nat) (A0 : Option Addr) (c0 : Nat) (l0 : List (S24)) (r : Int) (w : World) (hr0 : Kd.C k24 w A0 l0.length l0) (hc0 : l0.length ≤ c0) (h : spec_FairSpread.f k l0 = some r) :
    Calls Try.prog 37 #[.slice A0 l0.length c0] w fun e w' => e = .returned (.int .i64 r) ∧ Below w.heap.size w w' := by
  have hu24 := Try.underlying24
  have HR0 := Aside0.mk hr0
  have HC0 := Aside0.mk hc0
  clear hr0 hc0
  have HB := Aside0.mk (Below.refl w.heap.size w)
  have H : (spec_FairSpread.l0 k l0 (-1) (-1) 0) = some r := h
  clear h
  have H' := Aside0.mk H
  clear H
  go_enter Try.func37, Try.ntmps37
  go_wp2
  go_loopg [3, 4, 5] k (fun kq v3 v4 v5 w' => ∃ (x3_1 : Int) (x4_1 : Int) (x5_1 : Int), v3 = .int .i64 x3_1 ∧ v4 = .int .i64 x4_1 ∧ v5 = .int .i64 x5_1 ∧ Aside0 (spec_FairSpread.l0 kq l0 x3_1 x4_1 x5_1 = some r) ∧ Aside0 (kq ≤ k) ∧ Aside0 (Below w.heap.size w w'))
  case atStart => exact ⟨((-1)), ((-1)), (0), (by first | rfl | (simp; done) | (simp [*]; done)), (by first | rfl | (simp; done) | (simp [*]; done)), (by first | rfl | (simp; done) | (simp [*]; done)), H', ⟨Nat.le_refl _⟩, ⟨by repeat (first | (with_reducible first | exact HB.out | apply below_alloc | apply pw_below_drewN | apply below_drew1) | exact HB.out)⟩⟩
  case round =>
    clear H'
    obtain ⟨x3_1, x4_1, x5_1, rfl, rfl, rfl, HA, HK1, HB⟩ := hrel
    cases gk with
    | zero => exact absurd HA.out (by simp [spec_FairSpread.l0])
    | succ k1 =>
      have H := HA.out
      clear HA
      simp only [spec_FairSpread.l0] at H
      by_cases c2 : x5_1 < (l0.length : Int)
      · rw [if_pos c2] at H
        have c2b0 : decide (x5_1 < (l0.length : Int)) = true := decide_eq_true c2
        clear c2
        by_cases c3 : 0 ≤ x5_1
        · rw [if_pos c3] at H
          have c3b0 : decide (0 ≤ x5_1) = true := decide_eq_true c3
          clear c3
          replace H := Option.bind_eq_some_iff.mp H
          obtain ⟨t744, A40, H⟩ := H
          replace H : (if t744 = true then (if x3_1 < 0 then ((spec_l1Max.f x4_1 ((rd_T24 l0 x5_1).f13)).bind fun t747 => (spec_FairSpread.l0 k1 l0 ((rd_T24 l0 x5_1).f13) t747 (wrap64 (x5_1 + 1)))) else (if ((rd_T24 l0 x5_1).f13) < x3_1 then ((spec_l1Max.f x4_1 ((rd_T24 l0 x5_1).f13)).bind fun t751 => (spec_FairSpread.l0 k1 l0 ((rd_T24 l0 x5_1).f13) t751 (wrap64 (x5_1 + 1)))) else ((spec_l1Max.f x4_1 ((rd_T24 l0 x5_1).f13)).bind fun t753 => (spec_FairSpread.l0 k1 l0 x3_1 t753 (wrap64 (x5_1 + 1)))))) else (spec_FairSpread.l0 k1 l0 x3_1 x4_1 (wrap64 (x5_1 + 1)))) = some r := H
          have A4 := Aside0.mk A40
          clear A40
          by_cases c5 : t744 = true
          · subst c5
            have H1 : (if x3_1 < 0 then ((spec_l1Max.f x4_1 ((rd_T24 l0 x5_1).f13)).bind fun t747 => (spec_FairSpread.l0 k1 l0 ((rd_T24 l0 x5_1).f13) t747 (wrap64 (x5_1 + 1)))) else (if ((rd_T24 l0 x5_1).f13) < x3_1 then ((spec_l1Max.f x4_1 ((rd_T24 l0 x5_1).f13)).bind fun t751 => (spec_FairSpread.l0 k1 l0 ((rd_T24 l0 x5_1).f13) t751 (wrap64 (x5_1 + 1)))) else ((spec_l1Max.f x4_1 ((rd_T24 l0 x5_1).f13)).bind fun t753 => (spec_FairSpread.l0 k1 l0 x3_1 t753 (wrap64 (x5_1 + 1)))))) = some r := by rw [if_pos rfl] at H; exact H
            clear H
            have H := H1
            clear H1
            by_cases c6 : x3_1 < 0
            · rw [if_pos c6] at H
              have c6b0 : decide (x3_1 < 0) = true := decide_eq_true c6
              clear c6
              replace H := Option.bind_eq_some_iff.mp H
              obtain ⟨t747, A70, H⟩ := H
              replace H : (spec_FairSpread.l0 k1 l0 ((rd_T24 l0 x5_1).f13) t747 (wrap64 (x5_1 + 1))) = some r := H
              have A7 := Aside0.mk A70
              clear A70
              have H' := Aside0.mk H
              clear H
              have p743 : 0 ≤ (x5_1 : Int) := of_decide_eq_true (by first | (with_reducible assumption) | assumption)
              have q743 : x5_1 < (l0.length : Int) := of_decide_eq_true (by first | (with_reducible assumption) | assumption)
              obtain ⟨ad743, e743, hx743_0, hx743_1, hx743_2, hx743_3, hx743_4, hx743_5, hx743_6, hx743_7, hx743_8, hx743_9, hx743_10, hx743_11, hx743_12, hx743_13⟩ := at_T24 HR0.out x5_1 p743 q743
              cases e743
              replace hx743_0 := (HB.out.cell (World.block_lt_of_cell? w _ hx743_0)).trans hx743_0
              replace hx743_1 := (HB.out.cell (World.block_lt_of_cell? w _ hx743_1)).trans hx743_1
              replace hx743_2 := (HB.out.cell (World.block_lt_of_cell? w _ hx743_2)).trans hx743_2
              replace hx743_3 := (HB.out.cell (World.block_lt_of_cell? w _ hx743_3)).trans hx743_3
              replace hx743_4 := (HB.out.cell (World.block_lt_of_cell? w _ hx743_4)).trans hx743_4
              replace hx743_5 := (HB.out.cell (World.block_lt_of_cell? w _ hx743_5)).trans hx743_5
              replace hx743_6 := (HB.out.cell (World.block_lt_of_cell? w _ hx743_6)).trans hx743_6
              replace hx743_7 := (HB.out.cell (World.block_lt_of_cell? w _ hx743_7)).trans hx743_7
              replace hx743_8 := (HB.out.cell (World.block_lt_of_cell? w _ hx743_8)).trans hx743_8
              replace hx743_9 := (HB.out.cell (World.block_lt_of_cell? w _ hx743_9)).trans hx743_9
              replace hx743_10 := (HB.out.cell (World.block_lt_of_cell? w _ hx743_10)).trans hx743_10
              replace hx743_11 := (HB.out.cell (World.block_lt_of_cell? w _ hx743_11)).trans hx743_11
              replace hx743_12 := (HB.out.cell (World.block_lt_of_cell? w _ hx743_12)).trans hx743_12
              replace hx743_13 := (HB.out.cell (World.block_lt_of_cell? w _ hx743_13)).trans hx743_13
              replace p743 := eq_true p743
              replace q743 := eq_true q743
              go_wp2_with (first | ((with_reducible refine gate_callee (f := 65) rfl ?_); refine goesL_ (some 16) rfl rfl Try.func65 (by kernel_rfl) rfl #[.agg #[.int .i64 ((rd_T24 l0 x5_1).f0), .int .i64 ((rd_T24 l0 x5_1).f1), .int .i64 ((rd_T24 l0 x5_1).f2), .int .i64 ((rd_T24 l0 x5_1).f3), .bool ((rd_T24 l0 x5_1).f4), .int .i64 ((rd_T24 l0 x5_1).f5), .int .i64 ((rd_T24 l0 x5_1).f6), .int .i64 ((rd_T24 l0 x5_1).f7), .int .i64 ((rd_T24 l0 x5_1).f8), .int .i64 ((rd_T24 l0 x5_1).f9), .int .i64 ((rd_T24 l0 x5_1).f10), .int .i64 ((rd_T24 l0 x5_1).f11), .int .i64 ((rd_T24 l0 x5_1).f12), .int .i64 ((rd_T24 l0 x5_1).f13)]] rfl (by (try simp only [List.map_toArray, List.map_cons, List.map_nil]); first | done | rfl | (simp only [List.length_drop, List.length_take]; rfl)) ?_; (with_reducible refine (spec_l6Fair.calls ((rd_T24 l0 x5_1).f0) ((rd_T24 l0 x5_1).f1) ((rd_T24 l0 x5_1).f2) ((rd_T24 l0 x5_1).f3) ((rd_T24 l0 x5_1).f4) ((rd_T24 l0 x5_1).f5) ((rd_T24 l0 x5_1).f6) ((rd_T24 l0 x5_1).f7) ((rd_T24 l0 x5_1).f8) ((rd_T24 l0 x5_1).f9) ((rd_T24 l0 x5_1).f10) ((rd_T24 l0 x5_1).f11) ((rd_T24 l0 x5_1).f12) ((rd_T24 l0 x5_1).f13) true _ A4.out).mono ?_); rintro e w8 ⟨rfl, hb⟩; refine ⟨_, rfl, ?_⟩; have n0_ := Aside0.mk (below_step (by repeat (first | (with_reducible first | exact HB.out | apply below_alloc | apply pw_below_drewN | apply below_drew1) | exact HB.out)) hb); clear HB; have HB := n0_; clear n0_; (try clear hb); (try clear hb2); (try clear hk); (try clear hi); have p745 : 0 ≤ (x5_1 : Int) := of_decide_eq_true (by first | (with_reducible assumption) | assumption); have q745 : x5_1 < (l0.length : Int) := of_decide_eq_true (by first | (with_reducible assumption) | assumption); obtain ⟨ad745, e745, hx745_0, hx745_1, hx745_2, hx745_3, hx745_4, hx745_5, hx745_6, hx745_7, hx745_8, hx745_9, hx745_10, hx745_11, hx745_12, hx745_13⟩ := at_T24 HR0.out x5_1 p745 q745; obtain rfl : ad743 = ad745 := (by injection e745); replace hx745_0 := (HB.out.cell (World.block_lt_of_cell? w _ hx745_0)).trans hx745_0; replace hx745_1 := (HB.out.cell (World.block_lt_of_cell? w _ hx745_1)).trans hx745_1; replace hx745_2 := (HB.out.cell (World.block_lt_of_cell? w _ hx745_2)).trans hx745_2; replace hx745_3 := (HB.out.cell (World.block_lt_of_cell? w _ hx745_3)).trans hx745_3; replace hx745_4 := (HB.out.cell (World.block_lt_of_cell? w _ hx745_4)).trans hx745_4; replace hx745_5 := (HB.out.cell (World.block_lt_of_cell? w _ hx745_5)).trans hx745_5; replace hx745_6 := (HB.out.cell (World.block_lt_of_cell? w _ hx745_6)).trans hx745_6; replace hx745_7 := (HB.out.cell (World.block_lt_of_cell? w _ hx745_7)).trans hx745_7; replace hx745_8 := (HB.out.cell (World.block_lt_of_cell? w _ hx745_8)).trans hx745_8; replace hx745_9 := (HB.out.cell (World.block_lt_of_cell? w _ hx745_9)).trans hx745_9; replace hx745_10 := (HB.out.cell (World.block_lt_of_cell? w _ hx745_10)).trans hx745_10; replace hx745_11 := (HB.out.cell (World.block_lt_of_cell? w _ hx745_11)).trans hx745_11; replace hx745_12 := (HB.out.cell (World.block_lt_of_cell? w _ hx745_12)).trans hx745_12; replace hx745_13 := (HB.out.cell (World.block_lt_of_cell? w _ hx745_13)).trans hx745_13; replace p745 := eq_true p745; replace q745 := eq_true q745; have p746 : 0 ≤ (x5_1 : Int) := of_decide_eq_true (by first | (with_reducible assumption) | assumption); have q746 : x5_1 < (l0.length : Int) := of_decide_eq_true (by first | (with_reducible assumption) | assumption); obtain ⟨ad746, e746, hx746_0, hx746_1, hx746_2, hx746_3, hx746_4, hx746_5, hx746_6, hx746_7, hx746_8, hx746_9, hx746_10, hx746_11, hx746_12, hx746_13⟩ := at_T24 HR0.out x5_1 p746 q746; obtain rfl : ad743 = ad746 := (by injection e746); replace hx746_0 := (HB.out.cell (World.block_lt_of_cell? w _ hx746_0)).trans hx746_0; replace hx746_1 := (HB.out.cell (World.block_lt_of_cell? w _ hx746_1)).trans hx746_1; replace hx746_2 := (HB.out.cell (World.block_lt_of_cell? w _ hx746_2)).trans hx746_2; replace hx746_3 := (HB.out.cell (World.block_lt_of_cell? w _ hx746_3)).trans hx746_3; replace hx746_4 := (HB.out.cell (World.block_lt_of_cell? w _ hx746_4)).trans hx746_4; replace hx746_5 := (HB.out.cell (World.block_lt_of_cell? w _ hx746_5)).trans hx746_5; replace hx746_6 := (HB.out.cell (World.block_lt_of_cell? w _ hx746_6)).trans hx746_6; replace hx746_7 := (HB.out.cell (World.block_lt_of_cell? w _ hx746_7)).trans hx746_7; replace hx746_8 := (HB.out.cell (World.block_lt_of_cell? w _ hx746_8)).trans hx746_8; replace hx746_9 := (HB.out.cell (World.block_lt_of_cell? w _ hx746_9)).trans hx746_9; replace hx746_10 := (HB.out.cell (World.block_lt_of_cell? w _ hx746_10)).trans hx746_10; replace hx746_11 := (HB.out.cell (World.block_lt_of_cell? w _ hx746_11)).trans hx746_11; replace hx746_12 := (HB.out.cell (World.block_lt_of_cell? w _ hx746_12)).trans hx746_12; replace hx746_13 := (HB.out.cell (World.block_lt_of_cell? w _ hx746_13)).trans hx746_13; replace p746 := eq_true p746; replace q746 := eq_true q746) | ((with_reducible refine gate_callee (f := 67) rfl ?_); refine goesL_ (some 40) rfl rfl Try.func67 (by kernel_rfl) rfl #[.int .i64 x4_1, .int .i64 ((rd_T24 l0 x5_1).f13)] rfl (by (try simp only [List.map_toArray, List.map_cons, List.map_nil]); first | done | rfl | (simp only [List.length_drop, List.length_take]; rfl)) ?_; (with_reducible refine (spec_l1Max.calls x4_1 ((rd_T24 l0 x5_1).f13) t747 _ A7.out).mono ?_); rintro e w' ⟨rfl, ⟨nd, rfl⟩⟩; refine ⟨_, rfl, ?_⟩))
              go_roundg k1
              case measure => have := HK1.out; omega
              case rel => exact ⟨((rd_T24 l0 x5_1).f13), (t747), (wrap64 (x5_1 + 1)), (by first | rfl | (simp; done) | (simp [*]; done)), (by first | rfl | (simp; done) | (simp [*]; done)), (by first | rfl | (simp; done) | (simp [*]; done)), H', ⟨by have := HK1.out; omega⟩, ⟨by repeat (first | (with_reducible first | exact HB.out | apply below_alloc | apply pw_below_drewN | apply below_drew1) | exact HB.out)⟩⟩
            · rw [if_neg c6] at H
              have c6b0 : decide (x3_1 < 0) = false := decide_eq_false c6
              clear c6
              by_cases c9 : ((rd_T24 l0 x5_1).f13) < x3_1
              · rw [if_pos c9] at H
                have c9b0 : decide (((rd_T24 l0 x5_1).f13) < x3_1) = true := decide_eq_true c9
                clear c9
                replace H := Option.bind_eq_some_iff.mp H
                obtain ⟨t751, A100, H⟩ := H
                replace H : (spec_FairSpread.l0 k1 l0 ((rd_T24 l0 x5_1).f13) t751 (wrap64 (x5_1 + 1))) = some r := H
                have A10 := Aside0.mk A100
                clear A100
                have H' := Aside0.mk H
                clear H
                have p743 : 0 ≤ (x5_1 : Int) := of_decide_eq_true (by first | (with_reducible assumption) | assumption)
                have q743 : x5_1 < (l0.length : Int) := of_decide_eq_true (by first | (with_reducible assumption) | assumption)
                obtain ⟨ad743, e743, hx743_0, hx743_1, hx743_2, hx743_3, hx743_4, hx743_5, hx743_6, hx743_7, hx743_8, hx743_9, hx743_10, hx743_11, hx743_12, hx743_13⟩ := at_T24 HR0.out x5_1 p743 q743
                cases e743
                replace hx743_0 := (HB.out.cell (World.block_lt_of_cell? w _ hx743_0)).trans hx743_0
                replace hx743_1 := (HB.out.cell (World.block_lt_of_cell? w _ hx743_1)).trans hx743_1
                replace hx743_2 := (HB.out.cell (World.block_lt_of_cell? w _ hx743_2)).trans hx743_2
                replace hx743_3 := (HB.out.cell (World.block_lt_of_cell? w _ hx743_3)).trans hx743_3
                replace hx743_4 := (HB.out.cell (World.block_lt_of_cell? w _ hx743_4)).trans hx743_4
                replace hx743_5 := (HB.out.cell (World.block_lt_of_cell? w _ hx743_5)).trans hx743_5
                replace hx743_6 := (HB.out.cell (World.block_lt_of_cell? w _ hx743_6)).trans hx743_6
                replace hx743_7 := (HB.out.cell (World.block_lt_of_cell? w _ hx743_7)).trans hx743_7
                replace hx743_8 := (HB.out.cell (World.block_lt_of_cell? w _ hx743_8)).trans hx743_8
                replace hx743_9 := (HB.out.cell (World.block_lt_of_cell? w _ hx743_9)).trans hx743_9
                replace hx743_10 := (HB.out.cell (World.block_lt_of_cell? w _ hx743_10)).trans hx743_10
                replace hx743_11 := (HB.out.cell (World.block_lt_of_cell? w _ hx743_11)).trans hx743_11
                replace hx743_12 := (HB.out.cell (World.block_lt_of_cell? w _ hx743_12)).trans hx743_12
                replace hx743_13 := (HB.out.cell (World.block_lt_of_cell? w _ hx743_13)).trans hx743_13
                replace p743 := eq_true p743
                replace q743 := eq_true q743
                go_wp2_with (first | ((with_reducible refine gate_callee (f := 65) rfl ?_); refine goesL_ (some 16) rfl rfl Try.func65 (by kernel_rfl) rfl #[.agg #[.int .i64 ((rd_T24 l0 x5_1).f0), .int .i64 ((rd_T24 l0 x5_1).f1), .int .i64 ((rd_T24 l0 x5_1).f2), .int .i64 ((rd_T24 l0 x5_1).f3), .bool ((rd_T24 l0 x5_1).f4), .int .i64 ((rd_T24 l0 x5_1).f5), .int .i64 ((rd_T24 l0 x5_1).f6), .int .i64 ((rd_T24 l0 x5_1).f7), .int .i64 ((rd_T24 l0 x5_1).f8), .int .i64 ((rd_T24 l0 x5_1).f9), .int .i64 ((rd_T24 l0 x5_1).f10), .int .i64 ((rd_T24 l0 x5_1).f11), .int .i64 ((rd_T24 l0 x5_1).f12), .int .i64 ((rd_T24 l0 x5_1).f13)]] rfl (by (try simp only [List.map_toArray, List.map_cons, List.map_nil]); first | done | rfl | (simp only [List.length_drop, List.length_take]; rfl)) ?_; (with_reducible refine (spec_l6Fair.calls ((rd_T24 l0 x5_1).f0) ((rd_T24 l0 x5_1).f1) ((rd_T24 l0 x5_1).f2) ((rd_T24 l0 x5_1).f3) ((rd_T24 l0 x5_1).f4) ((rd_T24 l0 x5_1).f5) ((rd_T24 l0 x5_1).f6) ((rd_T24 l0 x5_1).f7) ((rd_T24 l0 x5_1).f8) ((rd_T24 l0 x5_1).f9) ((rd_T24 l0 x5_1).f10) ((rd_T24 l0 x5_1).f11) ((rd_T24 l0 x5_1).f12) ((rd_T24 l0 x5_1).f13) true _ A4.out).mono ?_); rintro e w11 ⟨rfl, hb⟩; refine ⟨_, rfl, ?_⟩; have n0_ := Aside0.mk (below_step (by repeat (first | (with_reducible first | exact HB.out | apply below_alloc | apply pw_below_drewN | apply below_drew1) | exact HB.out)) hb); clear HB; have HB := n0_; clear n0_; (try clear hb); (try clear hb2); (try clear hk); (try clear hi); have p748 : 0 ≤ (x5_1 : Int) := of_decide_eq_true (by first | (with_reducible assumption) | assumption); have q748 : x5_1 < (l0.length : Int) := of_decide_eq_true (by first | (with_reducible assumption) | assumption); obtain ⟨ad748, e748, hx748_0, hx748_1, hx748_2, hx748_3, hx748_4, hx748_5, hx748_6, hx748_7, hx748_8, hx748_9, hx748_10, hx748_11, hx748_12, hx748_13⟩ := at_T24 HR0.out x5_1 p748 q748; obtain rfl : ad743 = ad748 := (by injection e748); replace hx748_0 := (HB.out.cell (World.block_lt_of_cell? w _ hx748_0)).trans hx748_0; replace hx748_1 := (HB.out.cell (World.block_lt_of_cell? w _ hx748_1)).trans hx748_1; replace hx748_2 := (HB.out.cell (World.block_lt_of_cell? w _ hx748_2)).trans hx748_2; replace hx748_3 := (HB.out.cell (World.block_lt_of_cell? w _ hx748_3)).trans hx748_3; replace hx748_4 := (HB.out.cell (World.block_lt_of_cell? w _ hx748_4)).trans hx748_4; replace hx748_5 := (HB.out.cell (World.block_lt_of_cell? w _ hx748_5)).trans hx748_5; replace hx748_6 := (HB.out.cell (World.block_lt_of_cell? w _ hx748_6)).trans hx748_6; replace hx748_7 := (HB.out.cell (World.block_lt_of_cell? w _ hx748_7)).trans hx748_7; replace hx748_8 := (HB.out.cell (World.block_lt_of_cell? w _ hx748_8)).trans hx748_8; replace hx748_9 := (HB.out.cell (World.block_lt_of_cell? w _ hx748_9)).trans hx748_9; replace hx748_10 := (HB.out.cell (World.block_lt_of_cell? w _ hx748_10)).trans hx748_10; replace hx748_11 := (HB.out.cell (World.block_lt_of_cell? w _ hx748_11)).trans hx748_11; replace hx748_12 := (HB.out.cell (World.block_lt_of_cell? w _ hx748_12)).trans hx748_12; replace hx748_13 := (HB.out.cell (World.block_lt_of_cell? w _ hx748_13)).trans hx748_13; replace p748 := eq_true p748; replace q748 := eq_true q748; have p749 : 0 ≤ (x5_1 : Int) := of_decide_eq_true (by first | (with_reducible assumption) | assumption); have q749 : x5_1 < (l0.length : Int) := of_decide_eq_true (by first | (with_reducible assumption) | assumption); obtain ⟨ad749, e749, hx749_0, hx749_1, hx749_2, hx749_3, hx749_4, hx749_5, hx749_6, hx749_7, hx749_8, hx749_9, hx749_10, hx749_11, hx749_12, hx749_13⟩ := at_T24 HR0.out x5_1 p749 q749; obtain rfl : ad743 = ad749 := (by injection e749); replace hx749_0 := (HB.out.cell (World.block_lt_of_cell? w _ hx749_0)).trans hx749_0; replace hx749_1 := (HB.out.cell (World.block_lt_of_cell? w _ hx749_1)).trans hx749_1; replace hx749_2 := (HB.out.cell (World.block_lt_of_cell? w _ hx749_2)).trans hx749_2; replace hx749_3 := (HB.out.cell (World.block_lt_of_cell? w _ hx749_3)).trans hx749_3; replace hx749_4 := (HB.out.cell (World.block_lt_of_cell? w _ hx749_4)).trans hx749_4; replace hx749_5 := (HB.out.cell (World.block_lt_of_cell? w _ hx749_5)).trans hx749_5; replace hx749_6 := (HB.out.cell (World.block_lt_of_cell? w _ hx749_6)).trans hx749_6; replace hx749_7 := (HB.out.cell (World.block_lt_of_cell? w _ hx749_7)).trans hx749_7; replace hx749_8 := (HB.out.cell (World.block_lt_of_cell? w _ hx749_8)).trans hx749_8; replace hx749_9 := (HB.out.cell (World.block_lt_of_cell? w _ hx749_9)).trans hx749_9; replace hx749_10 := (HB.out.cell (World.block_lt_of_cell? w _ hx749_10)).trans hx749_10; replace hx749_11 := (HB.out.cell (World.block_lt_of_cell? w _ hx749_11)).trans hx749_11; replace hx749_12 := (HB.out.cell (World.block_lt_of_cell? w _ hx749_12)).trans hx749_12; replace hx749_13 := (HB.out.cell (World.block_lt_of_cell? w _ hx749_13)).trans hx749_13; replace p749 := eq_true p749; replace q749 := eq_true q749; have p750 : 0 ≤ (x5_1 : Int) := of_decide_eq_true (by first | (with_reducible assumption) | assumption); have q750 : x5_1 < (l0.length : Int) := of_decide_eq_true (by first | (with_reducible assumption) | assumption); obtain ⟨ad750, e750, hx750_0, hx750_1, hx750_2, hx750_3, hx750_4, hx750_5, hx750_6, hx750_7, hx750_8, hx750_9, hx750_10, hx750_11, hx750_12, hx750_13⟩ := at_T24 HR0.out x5_1 p750 q750; obtain rfl : ad743 = ad750 := (by injection e750); replace hx750_0 := (HB.out.cell (World.block_lt_of_cell? w _ hx750_0)).trans hx750_0; replace hx750_1 := (HB.out.cell (World.block_lt_of_cell? w _ hx750_1)).trans hx750_1; replace hx750_2 := (HB.out.cell (World.block_lt_of_cell? w _ hx750_2)).trans hx750_2; replace hx750_3 := (HB.out.cell (World.block_lt_of_cell? w _ hx750_3)).trans hx750_3; replace hx750_4 := (HB.out.cell (World.block_lt_of_cell? w _ hx750_4)).trans hx750_4; replace hx750_5 := (HB.out.cell (World.block_lt_of_cell? w _ hx750_5)).trans hx750_5; replace hx750_6 := (HB.out.cell (World.block_lt_of_cell? w _ hx750_6)).trans hx750_6; replace hx750_7 := (HB.out.cell (World.block_lt_of_cell? w _ hx750_7)).trans hx750_7; replace hx750_8 := (HB.out.cell (World.block_lt_of_cell? w _ hx750_8)).trans hx750_8; replace hx750_9 := (HB.out.cell (World.block_lt_of_cell? w _ hx750_9)).trans hx750_9; replace hx750_10 := (HB.out.cell (World.block_lt_of_cell? w _ hx750_10)).trans hx750_10; replace hx750_11 := (HB.out.cell (World.block_lt_of_cell? w _ hx750_11)).trans hx750_11; replace hx750_12 := (HB.out.cell (World.block_lt_of_cell? w _ hx750_12)).trans hx750_12; replace hx750_13 := (HB.out.cell (World.block_lt_of_cell? w _ hx750_13)).trans hx750_13; replace p750 := eq_true p750; replace q750 := eq_true q750) | ((with_reducible refine gate_callee (f := 67) rfl ?_); refine goesL_ (some 40) rfl rfl Try.func67 (by kernel_rfl) rfl #[.int .i64 x4_1, .int .i64 ((rd_T24 l0 x5_1).f13)] rfl (by (try simp only [List.map_toArray, List.map_cons, List.map_nil]); first | done | rfl | (simp only [List.length_drop, List.length_take]; rfl)) ?_; (with_reducible refine (spec_l1Max.calls x4_1 ((rd_T24 l0 x5_1).f13) t751 _ A10.out).mono ?_); rintro e w' ⟨rfl, ⟨nd, rfl⟩⟩; refine ⟨_, rfl, ?_⟩))
                go_roundg k1
                case measure => have := HK1.out; omega
                case rel => exact ⟨((rd_T24 l0 x5_1).f13), (t751), (wrap64 (x5_1 + 1)), (by first | rfl | (simp; done) | (simp [*]; done)), (by first | rfl | (simp; done) | (simp [*]; done)), (by first | rfl | (simp; done) | (simp [*]; done)), H', ⟨by have := HK1.out; omega⟩, ⟨by repeat (first | (with_reducible first | exact HB.out | apply below_alloc | apply pw_below_drewN | apply below_drew1) | exact HB.out)⟩⟩
              · rw [if_neg c9] at H
                have c9b0 : decide (((rd_T24 l0 x5_1).f13) < x3_1) = false := decide_eq_false c9
                clear c9
                replace H := Option.bind_eq_some_iff.mp H
                obtain ⟨t753, A120, H⟩ := H
                replace H : (spec_FairSpread.l0 k1 l0 x3_1 t753 (wrap64 (x5_1 + 1))) = some r := H
                have A12 := Aside0.mk A120
                clear A120
                have H' := Aside0.mk H
                clear H
                have p743 : 0 ≤ (x5_1 : Int) := of_decide_eq_true (by first | (with_reducible assumption) | assumption)
                have q743 : x5_1 < (l0.length : Int) := of_decide_eq_true (by first | (with_reducible assumption) | assumption)
                obtain ⟨ad743, e743, hx743_0, hx743_1, hx743_2, hx743_3, hx743_4, hx743_5, hx743_6, hx743_7, hx743_8, hx743_9, hx743_10, hx743_11, hx743_12, hx743_13⟩ := at_T24 HR0.out x5_1 p743 q743
                cases e743
                replace hx743_0 := (HB.out.cell (World.block_lt_of_cell? w _ hx743_0)).trans hx743_0
                replace hx743_1 := (HB.out.cell (World.block_lt_of_cell? w _ hx743_1)).trans hx743_1
                replace hx743_2 := (HB.out.cell (World.block_lt_of_cell? w _ hx743_2)).trans hx743_2
                replace hx743_3 := (HB.out.cell (World.block_lt_of_cell? w _ hx743_3)).trans hx743_3
                replace hx743_4 := (HB.out.cell (World.block_lt_of_cell? w _ hx743_4)).trans hx743_4
                replace hx743_5 := (HB.out.cell (World.block_lt_of_cell? w _ hx743_5)).trans hx743_5
                replace hx743_6 := (HB.out.cell (World.block_lt_of_cell? w _ hx743_6)).trans hx743_6
                replace hx743_7 := (HB.out.cell (World.block_lt_of_cell? w _ hx743_7)).trans hx743_7
                replace hx743_8 := (HB.out.cell (World.block_lt_of_cell? w _ hx743_8)).trans hx743_8
                replace hx743_9 := (HB.out.cell (World.block_lt_of_cell? w _ hx743_9)).trans hx743_9
                replace hx743_10 := (HB.out.cell (World.block_lt_of_cell? w _ hx743_10)).trans hx743_10
                replace hx743_11 := (HB.out.cell (World.block_lt_of_cell? w _ hx743_11)).trans hx743_11
                replace hx743_12 := (HB.out.cell (World.block_lt_of_cell? w _ hx743_12)).trans hx743_12
                replace hx743_13 := (HB.out.cell (World.block_lt_of_cell? w _ hx743_13)).trans hx743_13
                replace p743 := eq_true p743
                replace q743 := eq_true q743
                go_wp2_with (first | ((with_reducible refine gate_callee (f := 65) rfl ?_); refine goesL_ (some 16) rfl rfl Try.func65 (by kernel_rfl) rfl #[.agg #[.int .i64 ((rd_T24 l0 x5_1).f0), .int .i64 ((rd_T24 l0 x5_1).f1), .int .i64 ((rd_T24 l0 x5_1).f2), .int .i64 ((rd_T24 l0 x5_1).f3), .bool ((rd_T24 l0 x5_1).f4), .int .i64 ((rd_T24 l0 x5_1).f5), .int .i64 ((rd_T24 l0 x5_1).f6), .int .i64 ((rd_T24 l0 x5_1).f7), .int .i64 ((rd_T24 l0 x5_1).f8), .int .i64 ((rd_T24 l0 x5_1).f9), .int .i64 ((rd_T24 l0 x5_1).f10), .int .i64 ((rd_T24 l0 x5_1).f11), .int .i64 ((rd_T24 l0 x5_1).f12), .int .i64 ((rd_T24 l0 x5_1).f13)]] rfl (by (try simp only [List.map_toArray, List.map_cons, List.map_nil]); first | done | rfl | (simp only [List.length_drop, List.length_take]; rfl)) ?_; (with_reducible refine (spec_l6Fair.calls ((rd_T24 l0 x5_1).f0) ((rd_T24 l0 x5_1).f1) ((rd_T24 l0 x5_1).f2) ((rd_T24 l0 x5_1).f3) ((rd_T24 l0 x5_1).f4) ((rd_T24 l0 x5_1).f5) ((rd_T24 l0 x5_1).f6) ((rd_T24 l0 x5_1).f7) ((rd_T24 l0 x5_1).f8) ((rd_T24 l0 x5_1).f9) ((rd_T24 l0 x5_1).f10) ((rd_T24 l0 x5_1).f11) ((rd_T24 l0 x5_1).f12) ((rd_T24 l0 x5_1).f13) true _ A4.out).mono ?_); rintro e w13 ⟨rfl, hb⟩; refine ⟨_, rfl, ?_⟩; have n0_ := Aside0.mk (below_step (by repeat (first | (with_reducible first | exact HB.out | apply below_alloc | apply pw_below_drewN | apply below_drew1) | exact HB.out)) hb); clear HB; have HB := n0_; clear n0_; (try clear hb); (try clear hb2); (try clear hk); (try clear hi); have p748 : 0 ≤ (x5_1 : Int) := of_decide_eq_true (by first | (with_reducible assumption) | assumption); have q748 : x5_1 < (l0.length : Int) := of_decide_eq_true (by first | (with_reducible assumption) | assumption); obtain ⟨ad748, e748, hx748_0, hx748_1, hx748_2, hx748_3, hx748_4, hx748_5, hx748_6, hx748_7, hx748_8, hx748_9, hx748_10, hx748_11, hx748_12, hx748_13⟩ := at_T24 HR0.out x5_1 p748 q748; obtain rfl : ad743 = ad748 := (by injection e748); replace hx748_0 := (HB.out.cell (World.block_lt_of_cell? w _ hx748_0)).trans hx748_0; replace hx748_1 := (HB.out.cell (World.block_lt_of_cell? w _ hx748_1)).trans hx748_1; replace hx748_2 := (HB.out.cell (World.block_lt_of_cell? w _ hx748_2)).trans hx748_2; replace hx748_3 := (HB.out.cell (World.block_lt_of_cell? w _ hx748_3)).trans hx748_3; replace hx748_4 := (HB.out.cell (World.block_lt_of_cell? w _ hx748_4)).trans hx748_4; replace hx748_5 := (HB.out.cell (World.block_lt_of_cell? w _ hx748_5)).trans hx748_5; replace hx748_6 := (HB.out.cell (World.block_lt_of_cell? w _ hx748_6)).trans hx748_6; replace hx748_7 := (HB.out.cell (World.block_lt_of_cell? w _ hx748_7)).trans hx748_7; replace hx748_8 := (HB.out.cell (World.block_lt_of_cell? w _ hx748_8)).trans hx748_8; replace hx748_9 := (HB.out.cell (World.block_lt_of_cell? w _ hx748_9)).trans hx748_9; replace hx748_10 := (HB.out.cell (World.block_lt_of_cell? w _ hx748_10)).trans hx748_10; replace hx748_11 := (HB.out.cell (World.block_lt_of_cell? w _ hx748_11)).trans hx748_11; replace hx748_12 := (HB.out.cell (World.block_lt_of_cell? w _ hx748_12)).trans hx748_12; replace hx748_13 := (HB.out.cell (World.block_lt_of_cell? w _ hx748_13)).trans hx748_13; replace p748 := eq_true p748; replace q748 := eq_true q748; have p752 : 0 ≤ (x5_1 : Int) := of_decide_eq_true (by first | (with_reducible assumption) | assumption); have q752 : x5_1 < (l0.length : Int) := of_decide_eq_true (by first | (with_reducible assumption) | assumption); obtain ⟨ad752, e752, hx752_0, hx752_1, hx752_2, hx752_3, hx752_4, hx752_5, hx752_6, hx752_7, hx752_8, hx752_9, hx752_10, hx752_11, hx752_12, hx752_13⟩ := at_T24 HR0.out x5_1 p752 q752; obtain rfl : ad743 = ad752 := (by injection e752); replace hx752_0 := (HB.out.cell (World.block_lt_of_cell? w _ hx752_0)).trans hx752_0; replace hx752_1 := (HB.out.cell (World.block_lt_of_cell? w _ hx752_1)).trans hx752_1; replace hx752_2 := (HB.out.cell (World.block_lt_of_cell? w _ hx752_2)).trans hx752_2; replace hx752_3 := (HB.out.cell (World.block_lt_of_cell? w _ hx752_3)).trans hx752_3; replace hx752_4 := (HB.out.cell (World.block_lt_of_cell? w _ hx752_4)).trans hx752_4; replace hx752_5 := (HB.out.cell (World.block_lt_of_cell? w _ hx752_5)).trans hx752_5; replace hx752_6 := (HB.out.cell (World.block_lt_of_cell? w _ hx752_6)).trans hx752_6; replace hx752_7 := (HB.out.cell (World.block_lt_of_cell? w _ hx752_7)).trans hx752_7; replace hx752_8 := (HB.out.cell (World.block_lt_of_cell? w _ hx752_8)).trans hx752_8; replace hx752_9 := (HB.out.cell (World.block_lt_of_cell? w _ hx752_9)).trans hx752_9; replace hx752_10 := (HB.out.cell (World.block_lt_of_cell? w _ hx752_10)).trans hx752_10; replace hx752_11 := (HB.out.cell (World.block_lt_of_cell? w _ hx752_11)).trans hx752_11; replace hx752_12 := (HB.out.cell (World.block_lt_of_cell? w _ hx752_12)).trans hx752_12; replace hx752_13 := (HB.out.cell (World.block_lt_of_cell? w _ hx752_13)).trans hx752_13; replace p752 := eq_true p752; replace q752 := eq_true q752) | ((with_reducible refine gate_callee (f := 67) rfl ?_); refine goesL_ (some 40) rfl rfl Try.func67 (by kernel_rfl) rfl #[.int .i64 x4_1, .int .i64 ((rd_T24 l0 x5_1).f13)] rfl (by (try simp only [List.map_toArray, List.map_cons, List.map_nil]); first | done | rfl | (simp only [List.length_drop, List.length_take]; rfl)) ?_; (with_reducible refine (spec_l1Max.calls x4_1 ((rd_T24 l0 x5_1).f13) t753 _ A12.out).mono ?_); rintro e w' ⟨rfl, ⟨nd, rfl⟩⟩; refine ⟨_, rfl, ?_⟩))
                go_roundg k1
                case measure => have := HK1.out; omega
                case rel => exact ⟨(x3_1), (t753), (wrap64 (x5_1 + 1)), (by first | rfl | (simp; done) | (simp [*]; done)), (by first | rfl | (simp; done) | (simp [*]; done)), (by first | rfl | (simp; done) | (simp [*]; done)), H', ⟨by have := HK1.out; omega⟩, ⟨by repeat (first | (with_reducible first | exact HB.out | apply below_alloc | apply pw_below_drewN | apply below_drew1) | exact HB.out)⟩⟩
          · replace c5 := Bool.eq_false_iff.mpr c5
            subst c5
            have H1 : (spec_FairSpread.l0 k1 l0 x3_1 x4_1 (wrap64 (x5_1 + 1))) = some r := by rw [if_neg (show ¬ (false = true) by decide)] at H; exact H
            clear H
            have H := H1
            clear H1
            have H' := Aside0.mk H
            clear H
            have p743 : 0 ≤ (x5_1 : Int) := of_decide_eq_true (by first | (with_reducible assumption) | assumption)
            have q743 : x5_1 < (l0.length : Int) := of_decide_eq_true (by first | (with_reducible assumption) | assumption)
            obtain ⟨ad743, e743, hx743_0, hx743_1, hx743_2, hx743_3, hx743_4, hx743_5, hx743_6, hx743_7, hx743_8, hx743_9, hx743_10, hx743_11, hx743_12, hx743_13⟩ := at_T24 HR0.out x5_1 p743 q743
            cases e743
            replace hx743_0 := (HB.out.cell (World.block_lt_of_cell? w _ hx743_0)).trans hx743_0
            replace hx743_1 := (HB.out.cell (World.block_lt_of_cell? w _ hx743_1)).trans hx743_1
            replace hx743_2 := (HB.out.cell (World.block_lt_of_cell? w _ hx743_2)).trans hx743_2
            replace hx743_3 := (HB.out.cell (World.block_lt_of_cell? w _ hx743_3)).trans hx743_3
            replace hx743_4 := (HB.out.cell (World.block_lt_of_cell? w _ hx743_4)).trans hx743_4
            replace hx743_5 := (HB.out.cell (World.block_lt_of_cell? w _ hx743_5)).trans hx743_5
            replace hx743_6 := (HB.out.cell (World.block_lt_of_cell? w _ hx743_6)).trans hx743_6
            replace hx743_7 := (HB.out.cell (World.block_lt_of_cell? w _ hx743_7)).trans hx743_7
            replace hx743_8 := (HB.out.cell (World.block_lt_of_cell? w _ hx743_8)).trans hx743_8
            replace hx743_9 := (HB.out.cell (World.block_lt_of_cell? w _ hx743_9)).trans hx743_9
            replace hx743_10 := (HB.out.cell (World.block_lt_of_cell? w _ hx743_10)).trans hx743_10
            replace hx743_11 := (HB.out.cell (World.block_lt_of_cell? w _ hx743_11)).trans hx743_11
            replace hx743_12 := (HB.out.cell (World.block_lt_of_cell? w _ hx743_12)).trans hx743_12
            replace hx743_13 := (HB.out.cell (World.block_lt_of_cell? w _ hx743_13)).trans hx743_13
            replace p743 := eq_true p743
            replace q743 := eq_true q743
            go_wp2_with (first | ((with_reducible refine gate_callee (f := 65) rfl ?_); refine goesL_ (some 16) rfl rfl Try.func65 (by kernel_rfl) rfl #[.agg #[.int .i64 ((rd_T24 l0 x5_1).f0), .int .i64 ((rd_T24 l0 x5_1).f1), .int .i64 ((rd_T24 l0 x5_1).f2), .int .i64 ((rd_T24 l0 x5_1).f3), .bool ((rd_T24 l0 x5_1).f4), .int .i64 ((rd_T24 l0 x5_1).f5), .int .i64 ((rd_T24 l0 x5_1).f6), .int .i64 ((rd_T24 l0 x5_1).f7), .int .i64 ((rd_T24 l0 x5_1).f8), .int .i64 ((rd_T24 l0 x5_1).f9), .int .i64 ((rd_T24 l0 x5_1).f10), .int .i64 ((rd_T24 l0 x5_1).f11), .int .i64 ((rd_T24 l0 x5_1).f12), .int .i64 ((rd_T24 l0 x5_1).f13)]] rfl (by (try simp only [List.map_toArray, List.map_cons, List.map_nil]); first | done | rfl | (simp only [List.length_drop, List.length_take]; rfl)) ?_; (with_reducible refine (spec_l6Fair.calls ((rd_T24 l0 x5_1).f0) ((rd_T24 l0 x5_1).f1) ((rd_T24 l0 x5_1).f2) ((rd_T24 l0 x5_1).f3) ((rd_T24 l0 x5_1).f4) ((rd_T24 l0 x5_1).f5) ((rd_T24 l0 x5_1).f6) ((rd_T24 l0 x5_1).f7) ((rd_T24 l0 x5_1).f8) ((rd_T24 l0 x5_1).f9) ((rd_T24 l0 x5_1).f10) ((rd_T24 l0 x5_1).f11) ((rd_T24 l0 x5_1).f12) ((rd_T24 l0 x5_1).f13) false _ A4.out).mono ?_); rintro e w14 ⟨rfl, hb⟩; refine ⟨_, rfl, ?_⟩; have n0_ := Aside0.mk (below_step (by repeat (first | (with_reducible first | exact HB.out | apply below_alloc | apply pw_below_drewN | apply below_drew1) | exact HB.out)) hb); clear HB; have HB := n0_; clear n0_; (try clear hb); (try clear hb2); (try clear hk); (try clear hi)))
            go_roundg k1
            case measure => have := HK1.out; omega
            case rel => exact ⟨(x3_1), (x4_1), (wrap64 (x5_1 + 1)), (by first | rfl | (simp; done) | (simp [*]; done)), (by first | rfl | (simp; done) | (simp [*]; done)), (by first | rfl | (simp; done) | (simp [*]; done)), H', ⟨by have := HK1.out; omega⟩, ⟨by repeat (first | (with_reducible first | exact HB.out | apply below_alloc | apply pw_below_drewN | apply below_drew1) | exact HB.out)⟩⟩
        · rw [if_neg c3] at H
          exact absurd H (by simp)
      · rw [if_neg c2] at H
        have c2b0 : decide (x5_1 < (l0.length : Int)) = false := decide_eq_false c2
        clear c2
        obtain rfl := Option.some.inj H
        go_wp2
        go_ret
        exact ⟨by first | rfl | (simp [errW_none, errW_some] <;> rfl) | (simp [*, errW_none, errW_some] <;> rfl), by repeat (first | (with_reducible first | exact HB.out | apply below_alloc | apply pw_below_drewN | apply below_drew1) | exact HB.out)⟩

end Go.Proofs.Ytnokdjkkgcpbdab.Print
