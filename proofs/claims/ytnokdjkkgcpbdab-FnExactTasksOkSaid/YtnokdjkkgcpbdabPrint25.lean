/- Go functions as plain Lean functions, and that the Go code answers just as these, wherever they answer. Conditions: those of each theorem. Written by a program of this session (wip/patch.py). -/
import Derived.Test.YtnokdjkkgcpbdabPrint0
import Derived.Test.YtnokdjkkgcpbdabPrint6
namespace Go.Proofs.Ytnokdjkkgcpbdab.Print
open Go.RowKit Go.Proofs.Ytnokdjkkgcpbdab.Base Go.Proofs.YtnokdjkkgcpbdabW.PrintWords Go.Proofs.YtnokdjkkgcpbdabW.PrintLast Go.Proofs.YtnokdjkkgcpbdabW.PrintMore
attribute [local go_sem] max2_int min2_int max_two min_two max_three min_three max_four min_four   -- for this text's walks alone
set_option linter.unusedVariables false
set_option linter.unusedSimpArgs false

/-! ### spec_TasksOk: function 31 -/
def spec_TasksOk.l0 : Nat → List (S24) → Int → Option (Bool)
  | 0, _, _ => none
  | k + 1, x0, x3 => if x3 < (x0.length : Int) then (if 0 ≤ x3 then ((spec_TaskOk.f ((rd_T24 x0 x3).f0) ((rd_T24 x0 x3).f1) ((rd_T24 x0 x3).f2) ((rd_T24 x0 x3).f3) ((rd_T24 x0 x3).f4) ((rd_T24 x0 x3).f5) ((rd_T24 x0 x3).f6) ((rd_T24 x0 x3).f7) ((rd_T24 x0 x3).f8) ((rd_T24 x0 x3).f9) ((rd_T24 x0 x3).f10) ((rd_T24 x0 x3).f11) ((rd_T24 x0 x3).f12) ((rd_T24 x0 x3).f13)).bind fun t591 => (if t591 = true then (if x3 > 0 then (if 0 ≤ (wrap64 (x3 - 1)) then (if (wrap64 (x3 - 1)) < (x0.length : Int) then (if ((rd_T24 x0 (wrap64 (x3 - 1))).f0) ≥ ((rd_T24 x0 x3).f0) then (some false) else (spec_TasksOk.l0 k x0 (wrap64 (x3 + 1)))) else (none)) else (none)) else (spec_TasksOk.l0 k x0 (wrap64 (x3 + 1)))) else (some false))) else (none)) else (some (decide ((x0.length : Int) ≤ 12)))
def spec_TasksOk.f (k : Nat) (l0 : List (S24)) : Option (Bool) := spec_TasksOk.l0 k l0 0
theorem spec_TasksOk.mono_l : ∀ k, (∀ y0 y1, LeO (spec_TasksOk.l0 k y0 y1) (spec_TasksOk.l0 (k + 1) y0 y1))
  | 0 => fun _ _ r h => by simp [spec_TasksOk.l0] at h
  | k + 1 => by
    have ih0 := spec_TasksOk.mono_l k
    · intro y0 y1
      unfold spec_TasksOk.l0
      repeat' first
      | (with_reducible exact ih0 _ _)
      | (with_reducible exact LeO.refl _)
      | (with_reducible exact LeO.none _)
      | (with_reducible refine LeO.ite ?_ ?_)
      | (with_reducible refine LeO.bind ?_ (fun _ => ?_))
      | exact ih0 _ _
      | exact LeO.none _
      | refine LeO.ite ?_ ?_
      | refine LeO.bind ?_ (fun _ => ?_)
theorem spec_TasksOk.mono : ∀ a0 k, LeO (spec_TasksOk.f k a0) (spec_TasksOk.f (k + 1) a0) := by
  intro a0 k
  have ih0 := spec_TasksOk.mono_l k
  unfold spec_TasksOk.f
  repeat' first
      | (with_reducible exact ih0 _ _)
      | (with_reducible exact LeO.refl _)
      | (with_reducible exact LeO.none _)
      | (with_reducible refine LeO.ite ?_ ?_)
      | (with_reducible refine LeO.bind ?_ (fun _ => ?_))
      | exact ih0 _ _
      | exact LeO.none _
      | refine LeO.ite ?_ ?_
      | refine LeO.bind ?_ (fun _ => ?_)
def spec_TasksOk.T4 : Bool × List (List Nat × List Nat) := (true, [([], []), ([], []), ([0, 1], [0, 1]), ([2], [2]), ([3], [3]), ([4], [4]), ([5, 4], [5]), ([6], [6]), ([7, 6], [6, 7]), ([8, 6, 6], [6, 8]), ([9], [9]), ([9], [9]), ([11, 9], [9, 11]), ([10, 12, 9], [9, 10, 12]), ([13, 9], [9, 13]), ([14, 9], [9, 14]), ([9], [9]), ([9], [9]), ([16, 17, 9], [9, 16, 17]), ([18, 9], [9, 18]), ([19, 9], [9, 19]), ([15, 20, 9], [9, 15, 20]), ([9, 21, 6], [6, 9, 21]), ([6, 22], [6, 22])])
def spec_TasksOk.B4 : List Nat := [0, 0, 3, 7, 15, 31, 63, 127, 255, 511, 1023, 1023, 3071, 8191, 16383, 32767, 1023, 1023, 197631, 459775, 984063, 2097151, 4194303, 8388607]
theorem spec_TasksOk.tab4 : rtab .any (opsOf Try.f31 4) = spec_TasksOk.T4 := by kernel_rfl
theorem spec_TasksOk.bits4 : waitsOk spec_TasksOk.T4.2 spec_TasksOk.B4 = true := by kernel_rfl
set_option maxHeartbeats 8000000 in
set_option maxRecDepth 100000 in
theorem spec_TasksOk.calls (k : Nat) (A0 : Option Addr) (c0 : Nat) (l0 : List (S24)) (r : Bool) (w : World) (hr0 : Kd.C k24 w A0 l0.length l0) (hc0 : l0.length ≤ c0) (h : spec_TasksOk.f k l0 = some r) :
    Calls Try.prog 31 #[.slice A0 l0.length c0] w fun e w' => e = .returned (.bool r) ∧ Below w.heap.size w w' := by
  have hu24 := Try.underlying24
  have HR0 := Aside0.mk hr0
  have HC0 := Aside0.mk hc0
  clear hr0 hc0
  have HB := Aside0.mk (Below.refl w.heap.size w)
  have H : (spec_TasksOk.l0 k l0 0) = some r := h
  clear h
  have H' := Aside0.mk H
  clear H
  go_enter Try.func31, Try.ntmps31
  go_wp2
  go_loopg [3] k (fun kq v3 w' => ∃ (x3_1 : Int), v3 = .int .i64 x3_1 ∧ Aside0 (spec_TasksOk.l0 kq l0 x3_1 = some r) ∧ Aside0 (kq ≤ k) ∧ Aside0 (Below w.heap.size w w'))
  case atStart => exact ⟨(0), (by first | rfl | (simp; done) | (simp [*]; done)), H', ⟨Nat.le_refl _⟩, ⟨by repeat (first | (with_reducible first | exact HB.out | apply below_alloc | apply pw_below_drewN | apply below_drew1) | exact HB.out)⟩⟩
  case round =>
    clear H'
    obtain ⟨x3_1, rfl, HA, HK1, HB⟩ := hrel
    cases gk with
    | zero => exact absurd HA.out (by simp [spec_TasksOk.l0])
    | succ k1 =>
      have H := HA.out
      clear HA
      simp only [spec_TasksOk.l0] at H
      by_cases c2 : x3_1 < (l0.length : Int)
      · rw [if_pos c2] at H
        have c2b0 : decide (x3_1 < (l0.length : Int)) = true := decide_eq_true c2
        clear c2
        by_cases c3 : 0 ≤ x3_1
        · rw [if_pos c3] at H
          have c3b0 : decide (0 ≤ x3_1) = true := decide_eq_true c3
          clear c3
          replace H := Option.bind_eq_some_iff.mp H
          obtain ⟨t591, A40, H⟩ := H
          replace H : (if t591 = true then (if x3_1 > 0 then (if 0 ≤ (wrap64 (x3_1 - 1)) then (if (wrap64 (x3_1 - 1)) < (l0.length : Int) then (if ((rd_T24 l0 (wrap64 (x3_1 - 1))).f0) ≥ ((rd_T24 l0 x3_1).f0) then (some false) else (spec_TasksOk.l0 k1 l0 (wrap64 (x3_1 + 1)))) else (none)) else (none)) else (spec_TasksOk.l0 k1 l0 (wrap64 (x3_1 + 1)))) else (some false)) = some r := H
          have A4 := Aside0.mk A40
          clear A40
          by_cases c5 : t591 = true
          · subst c5
            have H1 : (if x3_1 > 0 then (if 0 ≤ (wrap64 (x3_1 - 1)) then (if (wrap64 (x3_1 - 1)) < (l0.length : Int) then (if ((rd_T24 l0 (wrap64 (x3_1 - 1))).f0) ≥ ((rd_T24 l0 x3_1).f0) then (some false) else (spec_TasksOk.l0 k1 l0 (wrap64 (x3_1 + 1)))) else (none)) else (none)) else (spec_TasksOk.l0 k1 l0 (wrap64 (x3_1 + 1)))) = some r := by rw [if_pos rfl] at H; exact H
            clear H
            have H := H1
            clear H1
            by_cases c6 : x3_1 > 0
            · rw [if_pos c6] at H
              have c6b0 : decide (0 < x3_1) = true := decide_eq_true c6
              clear c6
              obtain ⟨ji7, hji7⟩ : ∃ j_ : Int, (wrap64 (x3_1 - 1)) = j_ := ⟨_, rfl⟩
              replace H : (if 0 ≤ (ji7) then (if (ji7) < (l0.length : Int) then (if ((rd_T24 l0 (ji7)).f0) ≥ ((rd_T24 l0 x3_1).f0) then (some false) else (spec_TasksOk.l0 k1 l0 (wrap64 (x3_1 + 1)))) else (none)) else (none)) = some r := by first | (rw [hji7] at H; exact H) | (simp only [hji7] at H ⊢; exact H)
              (try rw [hji7] at A4)
              have hji7w : (IntKind.i64.wrap (x3_1 - 1)) = ji7 := (i64_w _).trans hji7
              by_cases c8 : 0 ≤ (ji7)
              · rw [if_pos c8] at H
                have c8b0 : decide (0 ≤ (ji7)) = true := decide_eq_true c8
                clear c8
                by_cases c9 : (ji7) < (l0.length : Int)
                · rw [if_pos c9] at H
                  have c9b0 : decide ((ji7) < (l0.length : Int)) = true := decide_eq_true c9
                  clear c9
                  by_cases c10 : ((rd_T24 l0 (ji7)).f0) ≥ ((rd_T24 l0 x3_1).f0)
                  · rw [if_pos c10] at H
                    have c10b0 : decide (((rd_T24 l0 x3_1).f0) ≤ ((rd_T24 l0 (ji7)).f0)) = true := decide_eq_true c10
                    clear c10
                    obtain rfl := Option.some.inj H
                    try go_wp2
                    have n0_ := Aside0.mk (below_drew1 HB.out)
                    clear HB
                    have HB := n0_
                    clear n0_
                    have p590 : 0 ≤ (x3_1 : Int) := of_decide_eq_true (by first | (with_reducible assumption) | assumption)
                    have q590 : x3_1 < (l0.length : Int) := of_decide_eq_true (by first | (with_reducible assumption) | assumption)
                    obtain ⟨ad590, e590, hx590_0, hx590_1, hx590_2, hx590_3, hx590_4, hx590_5, hx590_6, hx590_7, hx590_8, hx590_9, hx590_10, hx590_11, hx590_12, hx590_13⟩ := at_T24 HR0.out x3_1 p590 q590
                    have hw590_13 := hx590_13
                    have hw590_12 := hx590_12
                    have hw590_11 := hx590_11
                    have hw590_10 := hx590_10
                    have hw590_9 := hx590_9
                    have hw590_8 := hx590_8
                    have hw590_7 := hx590_7
                    have hw590_6 := hx590_6
                    have hw590_5 := hx590_5
                    have hw590_4 := hx590_4
                    have hw590_3 := hx590_3
                    have hw590_2 := hx590_2
                    have hw590_1 := hx590_1
                    have hw590_0 := hx590_0
                    cases e590
                    replace hx590_0 := (HB.out.cell (World.block_lt_of_cell? w _ hx590_0)).trans hx590_0
                    replace hx590_1 := (HB.out.cell (World.block_lt_of_cell? w _ hx590_1)).trans hx590_1
                    replace hx590_2 := (HB.out.cell (World.block_lt_of_cell? w _ hx590_2)).trans hx590_2
                    replace hx590_3 := (HB.out.cell (World.block_lt_of_cell? w _ hx590_3)).trans hx590_3
                    replace hx590_4 := (HB.out.cell (World.block_lt_of_cell? w _ hx590_4)).trans hx590_4
                    replace hx590_5 := (HB.out.cell (World.block_lt_of_cell? w _ hx590_5)).trans hx590_5
                    replace hx590_6 := (HB.out.cell (World.block_lt_of_cell? w _ hx590_6)).trans hx590_6
                    replace hx590_7 := (HB.out.cell (World.block_lt_of_cell? w _ hx590_7)).trans hx590_7
                    replace hx590_8 := (HB.out.cell (World.block_lt_of_cell? w _ hx590_8)).trans hx590_8
                    replace hx590_9 := (HB.out.cell (World.block_lt_of_cell? w _ hx590_9)).trans hx590_9
                    replace hx590_10 := (HB.out.cell (World.block_lt_of_cell? w _ hx590_10)).trans hx590_10
                    replace hx590_11 := (HB.out.cell (World.block_lt_of_cell? w _ hx590_11)).trans hx590_11
                    replace hx590_12 := (HB.out.cell (World.block_lt_of_cell? w _ hx590_12)).trans hx590_12
                    replace hx590_13 := (HB.out.cell (World.block_lt_of_cell? w _ hx590_13)).trans hx590_13
                    replace p590 := eq_true p590
                    replace q590 := eq_true q590
                    have p592 : 0 ≤ ((ji7) : Int) := of_decide_eq_true (by first | (with_reducible assumption) | assumption)
                    have q592 : (ji7) < (l0.length : Int) := of_decide_eq_true (by first | (with_reducible assumption) | assumption)
                    obtain ⟨ad592, e592, hx592_0, hx592_1, hx592_2, hx592_3, hx592_4, hx592_5, hx592_6, hx592_7, hx592_8, hx592_9, hx592_10, hx592_11, hx592_12, hx592_13⟩ := at_T24 HR0.out (ji7) p592 q592
                    have hw592_13 := hx592_13
                    have hw592_12 := hx592_12
                    have hw592_11 := hx592_11
                    have hw592_10 := hx592_10
                    have hw592_9 := hx592_9
                    have hw592_8 := hx592_8
                    have hw592_7 := hx592_7
                    have hw592_6 := hx592_6
                    have hw592_5 := hx592_5
                    have hw592_4 := hx592_4
                    have hw592_3 := hx592_3
                    have hw592_2 := hx592_2
                    have hw592_1 := hx592_1
                    have hw592_0 := hx592_0
                    obtain rfl : ad590 = ad592 := (by injection e592)
                    replace hx592_0 := (HB.out.cell (World.block_lt_of_cell? w _ hx592_0)).trans hx592_0
                    replace hx592_1 := (HB.out.cell (World.block_lt_of_cell? w _ hx592_1)).trans hx592_1
                    replace hx592_2 := (HB.out.cell (World.block_lt_of_cell? w _ hx592_2)).trans hx592_2
                    replace hx592_3 := (HB.out.cell (World.block_lt_of_cell? w _ hx592_3)).trans hx592_3
                    replace hx592_4 := (HB.out.cell (World.block_lt_of_cell? w _ hx592_4)).trans hx592_4
                    replace hx592_5 := (HB.out.cell (World.block_lt_of_cell? w _ hx592_5)).trans hx592_5
                    replace hx592_6 := (HB.out.cell (World.block_lt_of_cell? w _ hx592_6)).trans hx592_6
                    replace hx592_7 := (HB.out.cell (World.block_lt_of_cell? w _ hx592_7)).trans hx592_7
                    replace hx592_8 := (HB.out.cell (World.block_lt_of_cell? w _ hx592_8)).trans hx592_8
                    replace hx592_9 := (HB.out.cell (World.block_lt_of_cell? w _ hx592_9)).trans hx592_9
                    replace hx592_10 := (HB.out.cell (World.block_lt_of_cell? w _ hx592_10)).trans hx592_10
                    replace hx592_11 := (HB.out.cell (World.block_lt_of_cell? w _ hx592_11)).trans hx592_11
                    replace hx592_12 := (HB.out.cell (World.block_lt_of_cell? w _ hx592_12)).trans hx592_12
                    replace hx592_13 := (HB.out.cell (World.block_lt_of_cell? w _ hx592_13)).trans hx592_13
                    replace p592 := eq_true p592
                    replace q592 := eq_true q592
                    have p593 : 0 ≤ (x3_1 : Int) := of_decide_eq_true (by first | (with_reducible assumption) | assumption)
                    have q593 : x3_1 < (l0.length : Int) := of_decide_eq_true (by first | (with_reducible assumption) | assumption)
                    obtain ⟨ad593, e593, hx593_0, hx593_1, hx593_2, hx593_3, hx593_4, hx593_5, hx593_6, hx593_7, hx593_8, hx593_9, hx593_10, hx593_11, hx593_12, hx593_13⟩ := at_T24 HR0.out x3_1 p593 q593
                    have hw593_13 := hx593_13
                    have hw593_12 := hx593_12
                    have hw593_11 := hx593_11
                    have hw593_10 := hx593_10
                    have hw593_9 := hx593_9
                    have hw593_8 := hx593_8
                    have hw593_7 := hx593_7
                    have hw593_6 := hx593_6
                    have hw593_5 := hx593_5
                    have hw593_4 := hx593_4
                    have hw593_3 := hx593_3
                    have hw593_2 := hx593_2
                    have hw593_1 := hx593_1
                    have hw593_0 := hx593_0
                    obtain rfl : ad590 = ad593 := (by injection e593)
                    replace hx593_0 := (HB.out.cell (World.block_lt_of_cell? w _ hx593_0)).trans hx593_0
                    replace hx593_1 := (HB.out.cell (World.block_lt_of_cell? w _ hx593_1)).trans hx593_1
                    replace hx593_2 := (HB.out.cell (World.block_lt_of_cell? w _ hx593_2)).trans hx593_2
                    replace hx593_3 := (HB.out.cell (World.block_lt_of_cell? w _ hx593_3)).trans hx593_3
                    replace hx593_4 := (HB.out.cell (World.block_lt_of_cell? w _ hx593_4)).trans hx593_4
                    replace hx593_5 := (HB.out.cell (World.block_lt_of_cell? w _ hx593_5)).trans hx593_5
                    replace hx593_6 := (HB.out.cell (World.block_lt_of_cell? w _ hx593_6)).trans hx593_6
                    replace hx593_7 := (HB.out.cell (World.block_lt_of_cell? w _ hx593_7)).trans hx593_7
                    replace hx593_8 := (HB.out.cell (World.block_lt_of_cell? w _ hx593_8)).trans hx593_8
                    replace hx593_9 := (HB.out.cell (World.block_lt_of_cell? w _ hx593_9)).trans hx593_9
                    replace hx593_10 := (HB.out.cell (World.block_lt_of_cell? w _ hx593_10)).trans hx593_10
                    replace hx593_11 := (HB.out.cell (World.block_lt_of_cell? w _ hx593_11)).trans hx593_11
                    replace hx593_12 := (HB.out.cell (World.block_lt_of_cell? w _ hx593_12)).trans hx593_12
                    replace hx593_13 := (HB.out.cell (World.block_lt_of_cell? w _ hx593_13)).trans hx593_13
                    replace p593 := eq_true p593
                    replace q593 := eq_true q593
                    refine start_ (n := 24) (S := fun w' => w'.cell? (ad590.add ((x3_1).toNat * 14)) = some (.int .i64 ((rd_T24 l0 x3_1).f0)) ∧ w'.cell? ⟨(ad590.add ((x3_1).toNat * 14)).block, (ad590.add ((x3_1).toNat * 14)).off + 1, none⟩ = some (.int .i64 ((rd_T24 l0 x3_1).f1)) ∧ w'.cell? ⟨(ad590.add ((x3_1).toNat * 14)).block, (ad590.add ((x3_1).toNat * 14)).off + 2, none⟩ = some (.int .i64 ((rd_T24 l0 x3_1).f2)) ∧ w'.cell? ⟨(ad590.add ((x3_1).toNat * 14)).block, (ad590.add ((x3_1).toNat * 14)).off + 3, none⟩ = some (.int .i64 ((rd_T24 l0 x3_1).f3)) ∧ w'.cell? ⟨(ad590.add ((x3_1).toNat * 14)).block, (ad590.add ((x3_1).toNat * 14)).off + 4, none⟩ = some (.bool ((rd_T24 l0 x3_1).f4)) ∧ w'.cell? ⟨(ad590.add ((x3_1).toNat * 14)).block, (ad590.add ((x3_1).toNat * 14)).off + 5, none⟩ = some (.int .i64 ((rd_T24 l0 x3_1).f5)) ∧ w'.cell? ⟨(ad590.add ((x3_1).toNat * 14)).block, (ad590.add ((x3_1).toNat * 14)).off + 6, none⟩ = some (.int .i64 ((rd_T24 l0 x3_1).f6)) ∧ w'.cell? ⟨(ad590.add ((x3_1).toNat * 14)).block, (ad590.add ((x3_1).toNat * 14)).off + 7, none⟩ = some (.int .i64 ((rd_T24 l0 x3_1).f7)) ∧ w'.cell? ⟨(ad590.add ((x3_1).toNat * 14)).block, (ad590.add ((x3_1).toNat * 14)).off + 8, none⟩ = some (.int .i64 ((rd_T24 l0 x3_1).f8)) ∧ w'.cell? ⟨(ad590.add ((x3_1).toNat * 14)).block, (ad590.add ((x3_1).toNat * 14)).off + 9, none⟩ = some (.int .i64 ((rd_T24 l0 x3_1).f9)) ∧ w'.cell? ⟨(ad590.add ((x3_1).toNat * 14)).block, (ad590.add ((x3_1).toNat * 14)).off + 10, none⟩ = some (.int .i64 ((rd_T24 l0 x3_1).f10)) ∧ w'.cell? ⟨(ad590.add ((x3_1).toNat * 14)).block, (ad590.add ((x3_1).toNat * 14)).off + 11, none⟩ = some (.int .i64 ((rd_T24 l0 x3_1).f11)) ∧ w'.cell? ⟨(ad590.add ((x3_1).toNat * 14)).block, (ad590.add ((x3_1).toNat * 14)).off + 12, none⟩ = some (.int .i64 ((rd_T24 l0 x3_1).f12)) ∧ w'.cell? ⟨(ad590.add ((x3_1).toNat * 14)).block, (ad590.add ((x3_1).toNat * 14)).off + 13, none⟩ = some (.int .i64 ((rd_T24 l0 x3_1).f13)) ∧ w'.cell? (ad590.add (((ji7)).toNat * 14)) = some (.int .i64 ((rd_T24 l0 (ji7)).f0)) ∧ w'.cell? ⟨(ad590.add (((ji7)).toNat * 14)).block, (ad590.add (((ji7)).toNat * 14)).off + 1, none⟩ = some (.int .i64 ((rd_T24 l0 (ji7)).f1)) ∧ w'.cell? ⟨(ad590.add (((ji7)).toNat * 14)).block, (ad590.add (((ji7)).toNat * 14)).off + 2, none⟩ = some (.int .i64 ((rd_T24 l0 (ji7)).f2)) ∧ w'.cell? ⟨(ad590.add (((ji7)).toNat * 14)).block, (ad590.add (((ji7)).toNat * 14)).off + 3, none⟩ = some (.int .i64 ((rd_T24 l0 (ji7)).f3)) ∧ w'.cell? ⟨(ad590.add (((ji7)).toNat * 14)).block, (ad590.add (((ji7)).toNat * 14)).off + 4, none⟩ = some (.bool ((rd_T24 l0 (ji7)).f4)) ∧ w'.cell? ⟨(ad590.add (((ji7)).toNat * 14)).block, (ad590.add (((ji7)).toNat * 14)).off + 5, none⟩ = some (.int .i64 ((rd_T24 l0 (ji7)).f5)) ∧ w'.cell? ⟨(ad590.add (((ji7)).toNat * 14)).block, (ad590.add (((ji7)).toNat * 14)).off + 6, none⟩ = some (.int .i64 ((rd_T24 l0 (ji7)).f6)) ∧ w'.cell? ⟨(ad590.add (((ji7)).toNat * 14)).block, (ad590.add (((ji7)).toNat * 14)).off + 7, none⟩ = some (.int .i64 ((rd_T24 l0 (ji7)).f7)) ∧ w'.cell? ⟨(ad590.add (((ji7)).toNat * 14)).block, (ad590.add (((ji7)).toNat * 14)).off + 8, none⟩ = some (.int .i64 ((rd_T24 l0 (ji7)).f8)) ∧ w'.cell? ⟨(ad590.add (((ji7)).toNat * 14)).block, (ad590.add (((ji7)).toNat * 14)).off + 9, none⟩ = some (.int .i64 ((rd_T24 l0 (ji7)).f9)) ∧ w'.cell? ⟨(ad590.add (((ji7)).toNat * 14)).block, (ad590.add (((ji7)).toNat * 14)).off + 10, none⟩ = some (.int .i64 ((rd_T24 l0 (ji7)).f10)) ∧ w'.cell? ⟨(ad590.add (((ji7)).toNat * 14)).block, (ad590.add (((ji7)).toNat * 14)).off + 11, none⟩ = some (.int .i64 ((rd_T24 l0 (ji7)).f11)) ∧ w'.cell? ⟨(ad590.add (((ji7)).toNat * 14)).block, (ad590.add (((ji7)).toNat * 14)).off + 12, none⟩ = some (.int .i64 ((rd_T24 l0 (ji7)).f12)) ∧ w'.cell? ⟨(ad590.add (((ji7)).toNat * 14)).block, (ad590.add (((ji7)).toNat * 14)).off + 13, none⟩ = some (.int .i64 ((rd_T24 l0 (ji7)).f13)) ∧ w'.cell? (ad590.add ((x3_1).toNat * 14)) = some (.int .i64 ((rd_T24 l0 x3_1).f0)) ∧ w'.cell? ⟨(ad590.add ((x3_1).toNat * 14)).block, (ad590.add ((x3_1).toNat * 14)).off + 1, none⟩ = some (.int .i64 ((rd_T24 l0 x3_1).f1)) ∧ w'.cell? ⟨(ad590.add ((x3_1).toNat * 14)).block, (ad590.add ((x3_1).toNat * 14)).off + 2, none⟩ = some (.int .i64 ((rd_T24 l0 x3_1).f2)) ∧ w'.cell? ⟨(ad590.add ((x3_1).toNat * 14)).block, (ad590.add ((x3_1).toNat * 14)).off + 3, none⟩ = some (.int .i64 ((rd_T24 l0 x3_1).f3)) ∧ w'.cell? ⟨(ad590.add ((x3_1).toNat * 14)).block, (ad590.add ((x3_1).toNat * 14)).off + 4, none⟩ = some (.bool ((rd_T24 l0 x3_1).f4)) ∧ w'.cell? ⟨(ad590.add ((x3_1).toNat * 14)).block, (ad590.add ((x3_1).toNat * 14)).off + 5, none⟩ = some (.int .i64 ((rd_T24 l0 x3_1).f5)) ∧ w'.cell? ⟨(ad590.add ((x3_1).toNat * 14)).block, (ad590.add ((x3_1).toNat * 14)).off + 6, none⟩ = some (.int .i64 ((rd_T24 l0 x3_1).f6)) ∧ w'.cell? ⟨(ad590.add ((x3_1).toNat * 14)).block, (ad590.add ((x3_1).toNat * 14)).off + 7, none⟩ = some (.int .i64 ((rd_T24 l0 x3_1).f7)) ∧ w'.cell? ⟨(ad590.add ((x3_1).toNat * 14)).block, (ad590.add ((x3_1).toNat * 14)).off + 8, none⟩ = some (.int .i64 ((rd_T24 l0 x3_1).f8)) ∧ w'.cell? ⟨(ad590.add ((x3_1).toNat * 14)).block, (ad590.add ((x3_1).toNat * 14)).off + 9, none⟩ = some (.int .i64 ((rd_T24 l0 x3_1).f9)) ∧ w'.cell? ⟨(ad590.add ((x3_1).toNat * 14)).block, (ad590.add ((x3_1).toNat * 14)).off + 10, none⟩ = some (.int .i64 ((rd_T24 l0 x3_1).f10)) ∧ w'.cell? ⟨(ad590.add ((x3_1).toNat * 14)).block, (ad590.add ((x3_1).toNat * 14)).off + 11, none⟩ = some (.int .i64 ((rd_T24 l0 x3_1).f11)) ∧ w'.cell? ⟨(ad590.add ((x3_1).toNat * 14)).block, (ad590.add ((x3_1).toNat * 14)).off + 12, none⟩ = some (.int .i64 ((rd_T24 l0 x3_1).f12)) ∧ w'.cell? ⟨(ad590.add ((x3_1).toNat * 14)).block, (ad590.add ((x3_1).toNat * 14)).off + 13, none⟩ = some (.int .i64 ((rd_T24 l0 x3_1).f13))) (ds := []) #[false, false, false, false, false, false, false, false, false, false, false, false, false, false, false, false, false, false, false, false, false, false, false, false] (by kernel_rfl) rfl rfl ⟨((HB.out.cell (World.block_lt_of_cell? w _ hw590_0)).trans hw590_0), ((HB.out.cell (World.block_lt_of_cell? w _ hw590_1)).trans hw590_1), ((HB.out.cell (World.block_lt_of_cell? w _ hw590_2)).trans hw590_2), ((HB.out.cell (World.block_lt_of_cell? w _ hw590_3)).trans hw590_3), ((HB.out.cell (World.block_lt_of_cell? w _ hw590_4)).trans hw590_4), ((HB.out.cell (World.block_lt_of_cell? w _ hw590_5)).trans hw590_5), ((HB.out.cell (World.block_lt_of_cell? w _ hw590_6)).trans hw590_6), ((HB.out.cell (World.block_lt_of_cell? w _ hw590_7)).trans hw590_7), ((HB.out.cell (World.block_lt_of_cell? w _ hw590_8)).trans hw590_8), ((HB.out.cell (World.block_lt_of_cell? w _ hw590_9)).trans hw590_9), ((HB.out.cell (World.block_lt_of_cell? w _ hw590_10)).trans hw590_10), ((HB.out.cell (World.block_lt_of_cell? w _ hw590_11)).trans hw590_11), ((HB.out.cell (World.block_lt_of_cell? w _ hw590_12)).trans hw590_12), ((HB.out.cell (World.block_lt_of_cell? w _ hw590_13)).trans hw590_13), ((HB.out.cell (World.block_lt_of_cell? w _ hw592_0)).trans hw592_0), ((HB.out.cell (World.block_lt_of_cell? w _ hw592_1)).trans hw592_1), ((HB.out.cell (World.block_lt_of_cell? w _ hw592_2)).trans hw592_2), ((HB.out.cell (World.block_lt_of_cell? w _ hw592_3)).trans hw592_3), ((HB.out.cell (World.block_lt_of_cell? w _ hw592_4)).trans hw592_4), ((HB.out.cell (World.block_lt_of_cell? w _ hw592_5)).trans hw592_5), ((HB.out.cell (World.block_lt_of_cell? w _ hw592_6)).trans hw592_6), ((HB.out.cell (World.block_lt_of_cell? w _ hw592_7)).trans hw592_7), ((HB.out.cell (World.block_lt_of_cell? w _ hw592_8)).trans hw592_8), ((HB.out.cell (World.block_lt_of_cell? w _ hw592_9)).trans hw592_9), ((HB.out.cell (World.block_lt_of_cell? w _ hw592_10)).trans hw592_10), ((HB.out.cell (World.block_lt_of_cell? w _ hw592_11)).trans hw592_11), ((HB.out.cell (World.block_lt_of_cell? w _ hw592_12)).trans hw592_12), ((HB.out.cell (World.block_lt_of_cell? w _ hw592_13)).trans hw592_13), ((HB.out.cell (World.block_lt_of_cell? w _ hw593_0)).trans hw593_0), ((HB.out.cell (World.block_lt_of_cell? w _ hw593_1)).trans hw593_1), ((HB.out.cell (World.block_lt_of_cell? w _ hw593_2)).trans hw593_2), ((HB.out.cell (World.block_lt_of_cell? w _ hw593_3)).trans hw593_3), ((HB.out.cell (World.block_lt_of_cell? w _ hw593_4)).trans hw593_4), ((HB.out.cell (World.block_lt_of_cell? w _ hw593_5)).trans hw593_5), ((HB.out.cell (World.block_lt_of_cell? w _ hw593_6)).trans hw593_6), ((HB.out.cell (World.block_lt_of_cell? w _ hw593_7)).trans hw593_7), ((HB.out.cell (World.block_lt_of_cell? w _ hw593_8)).trans hw593_8), ((HB.out.cell (World.block_lt_of_cell? w _ hw593_9)).trans hw593_9), ((HB.out.cell (World.block_lt_of_cell? w _ hw593_10)).trans hw593_10), ((HB.out.cell (World.block_lt_of_cell? w _ hw593_11)).trans hw593_11), ((HB.out.cell (World.block_lt_of_cell? w _ hw593_12)).trans hw593_12), ((HB.out.cell (World.block_lt_of_cell? w _ hw593_13)).trans hw593_13)⟩ (fun hHeld => ?_); refine with_tabW spec_TasksOk.tab4 spec_TasksOk.bits4 (fun HT_ HW_ => ?_)
                    generalize wr.drew = w11 at HB hx590_0 hx590_1 hx590_10 hx590_11 hx590_12 hx590_13 hx590_2 hx590_3 hx590_4 hx590_5 hx590_6 hx590_7 hx590_8 hx590_9 hx592_0 hx592_1 hx592_10 hx592_11 hx592_12 hx592_13 hx592_2 hx592_3 hx592_4 hx592_5 hx592_6 hx592_7 hx592_8 hx592_9 hx593_0 hx593_1 hx593_10 hx593_11 hx593_12 hx593_13 hx593_2 hx593_3 hx593_4 hx593_5 hx593_6 hx593_7 hx593_8 hx593_9 hHeld ⊢
                    refine pure_ (i := 0) (N := some 10) (v := ?_) (a' := ?_) #[true, false, false, false, false, false, false, false, false, false, false, false, false, false, false, false, false, false, false, false, false, false, false, false] rfl rfl (any_of HT_.out (by kernel_rfl)) (fun _ _ _ h => h) (Or.inl ⟨by rfl, ?_⟩) ?_ ?_
                    rotate_left
                    · intro w'
                      go_simp
                      with_reducible rfl
                    rotate_left
                    · simp only [Act.put, List.setIfInBounds_toArray, List.set_cons_zero, List.set_cons_succ, i64_w, i32_w]
                      rfl
                    refine pure_ (i := 1) (N := some 11) (v := ?_) (a' := ?_) #[true, true, false, false, false, false, false, false, false, false, false, false, false, false, false, false, false, false, false, false, false, false, false, false] rfl rfl (any_of HT_.out (by kernel_rfl)) (fun _ _ _ h => h) (Or.inl ⟨by rfl, ?_⟩) ?_ ?_
                    rotate_left
                    · intro w'
                      go_simp
                      with_reducible rfl
                    rotate_left
                    · simp only [Act.put, List.setIfInBounds_toArray, List.set_cons_zero, List.set_cons_succ, i64_w, i32_w]
                      rfl
                    refine pure_ (i := 2) (N := some 12) (v := ?_) (a' := ?_) #[true, true, true, false, false, false, false, false, false, false, false, false, false, false, false, false, false, false, false, false, false, false, false, false] rfl rfl (any_of HT_.out (by kernel_rfl)) (fun _ _ _ h => h) (Or.inl ⟨by rfl, ?_⟩) ?_ ?_
                    rotate_left
                    · intro w'
                      go_simp
                      with_reducible rfl
                    rotate_left
                    · simp only [Act.put, List.setIfInBounds_toArray, List.set_cons_zero, List.set_cons_succ, i64_w, i32_w]
                      rfl
                    refine take_ (i := 3) (N := some 13) (v := ?_) (a' := ?_) #[true, true, true, true, false, false, false, false, false, false, false, false, false, false, false, false, false, false, false, false, false, false, false, false] rfl rfl (take_ofW HT_.out HW_.out (by kernel_rfl)) (fun _ _ _ h => h) (Or.inl ⟨by rfl, ?_⟩) hHeld ?_ ?_
                    rotate_left
                    · rintro w' ⟨s0, s1, s2, s3, s4, s5, s6, s7, s8, s9, s10, s11, s12, s13, s14, s15, s16, s17, s18, s19, s20, s21, s22, s23, s24, s25, s26, s27, s28, s29, s30, s31, s32, s33, s34, s35, s36, s37, s38, s39, s40, s41⟩
                      go_simp
                      with_reducible rfl
                    rotate_left
                    · simp only [Act.put, List.setIfInBounds_toArray, List.set_cons_zero, List.set_cons_succ, i64_w, i32_w]
                      rfl
                    refine one_ (i := 4) (N := some 14) #[true, true, true, true, true, false, false, false, false, false, false, false, false, false, false, false, false, false, false, false, false, false, false, false] rfl rfl (one_of HT_.out (by kernel_rfl)) (by decide) (fun K hK => ?_)
                    refine goes_ Try.func49 (by kernel_rfl) rfl #[.agg #[.int .i64 ((rd_T24 l0 x3_1).f0), .int .i64 ((rd_T24 l0 x3_1).f1), .int .i64 ((rd_T24 l0 x3_1).f2), .int .i64 ((rd_T24 l0 x3_1).f3), .bool ((rd_T24 l0 x3_1).f4), .int .i64 ((rd_T24 l0 x3_1).f5), .int .i64 ((rd_T24 l0 x3_1).f6), .int .i64 ((rd_T24 l0 x3_1).f7), .int .i64 ((rd_T24 l0 x3_1).f8), .int .i64 ((rd_T24 l0 x3_1).f9), .int .i64 ((rd_T24 l0 x3_1).f10), .int .i64 ((rd_T24 l0 x3_1).f11), .int .i64 ((rd_T24 l0 x3_1).f12), .int .i64 ((rd_T24 l0 x3_1).f13)]] (by rfl) rfl rfl (by (try simp only [List.map_toArray, List.map_cons, List.map_nil]); first | done | rfl | (simp only [List.length_drop, List.length_take]; rfl)) ?_
                    with_reducible refine (spec_TaskOk.calls ((rd_T24 l0 x3_1).f0) ((rd_T24 l0 x3_1).f1) ((rd_T24 l0 x3_1).f2) ((rd_T24 l0 x3_1).f3) ((rd_T24 l0 x3_1).f4) ((rd_T24 l0 x3_1).f5) ((rd_T24 l0 x3_1).f6) ((rd_T24 l0 x3_1).f7) ((rd_T24 l0 x3_1).f8) ((rd_T24 l0 x3_1).f9) ((rd_T24 l0 x3_1).f10) ((rd_T24 l0 x3_1).f11) ((rd_T24 l0 x3_1).f12) ((rd_T24 l0 x3_1).f13) true _ A4.out).mono ?_
                    rintro e w12 ⟨rfl, hb⟩
                    refine ⟨_, rfl, ?_⟩
                    have n0_ := Aside0.mk (below_step (by repeat (first | (with_reducible first | exact HB.out | apply below_alloc | apply pw_below_drewN | apply below_drew1) | exact HB.out)) hb)
                    clear HB
                    have HB := n0_
                    clear n0_
                    (try clear hb)
                    (try clear hb2)
                    (try clear hk)
                    (try clear hi)
                    refine hK.out _ _ ⟨((HB.out.cell (World.block_lt_of_cell? w _ hw590_0)).trans hw590_0), ((HB.out.cell (World.block_lt_of_cell? w _ hw590_1)).trans hw590_1), ((HB.out.cell (World.block_lt_of_cell? w _ hw590_2)).trans hw590_2), ((HB.out.cell (World.block_lt_of_cell? w _ hw590_3)).trans hw590_3), ((HB.out.cell (World.block_lt_of_cell? w _ hw590_4)).trans hw590_4), ((HB.out.cell (World.block_lt_of_cell? w _ hw590_5)).trans hw590_5), ((HB.out.cell (World.block_lt_of_cell? w _ hw590_6)).trans hw590_6), ((HB.out.cell (World.block_lt_of_cell? w _ hw590_7)).trans hw590_7), ((HB.out.cell (World.block_lt_of_cell? w _ hw590_8)).trans hw590_8), ((HB.out.cell (World.block_lt_of_cell? w _ hw590_9)).trans hw590_9), ((HB.out.cell (World.block_lt_of_cell? w _ hw590_10)).trans hw590_10), ((HB.out.cell (World.block_lt_of_cell? w _ hw590_11)).trans hw590_11), ((HB.out.cell (World.block_lt_of_cell? w _ hw590_12)).trans hw590_12), ((HB.out.cell (World.block_lt_of_cell? w _ hw590_13)).trans hw590_13), ((HB.out.cell (World.block_lt_of_cell? w _ hw592_0)).trans hw592_0), ((HB.out.cell (World.block_lt_of_cell? w _ hw592_1)).trans hw592_1), ((HB.out.cell (World.block_lt_of_cell? w _ hw592_2)).trans hw592_2), ((HB.out.cell (World.block_lt_of_cell? w _ hw592_3)).trans hw592_3), ((HB.out.cell (World.block_lt_of_cell? w _ hw592_4)).trans hw592_4), ((HB.out.cell (World.block_lt_of_cell? w _ hw592_5)).trans hw592_5), ((HB.out.cell (World.block_lt_of_cell? w _ hw592_6)).trans hw592_6), ((HB.out.cell (World.block_lt_of_cell? w _ hw592_7)).trans hw592_7), ((HB.out.cell (World.block_lt_of_cell? w _ hw592_8)).trans hw592_8), ((HB.out.cell (World.block_lt_of_cell? w _ hw592_9)).trans hw592_9), ((HB.out.cell (World.block_lt_of_cell? w _ hw592_10)).trans hw592_10), ((HB.out.cell (World.block_lt_of_cell? w _ hw592_11)).trans hw592_11), ((HB.out.cell (World.block_lt_of_cell? w _ hw592_12)).trans hw592_12), ((HB.out.cell (World.block_lt_of_cell? w _ hw592_13)).trans hw592_13), ((HB.out.cell (World.block_lt_of_cell? w _ hw593_0)).trans hw593_0), ((HB.out.cell (World.block_lt_of_cell? w _ hw593_1)).trans hw593_1), ((HB.out.cell (World.block_lt_of_cell? w _ hw593_2)).trans hw593_2), ((HB.out.cell (World.block_lt_of_cell? w _ hw593_3)).trans hw593_3), ((HB.out.cell (World.block_lt_of_cell? w _ hw593_4)).trans hw593_4), ((HB.out.cell (World.block_lt_of_cell? w _ hw593_5)).trans hw593_5), ((HB.out.cell (World.block_lt_of_cell? w _ hw593_6)).trans hw593_6), ((HB.out.cell (World.block_lt_of_cell? w _ hw593_7)).trans hw593_7), ((HB.out.cell (World.block_lt_of_cell? w _ hw593_8)).trans hw593_8), ((HB.out.cell (World.block_lt_of_cell? w _ hw593_9)).trans hw593_9), ((HB.out.cell (World.block_lt_of_cell? w _ hw593_10)).trans hw593_10), ((HB.out.cell (World.block_lt_of_cell? w _ hw593_11)).trans hw593_11), ((HB.out.cell (World.block_lt_of_cell? w _ hw593_12)).trans hw593_12), ((HB.out.cell (World.block_lt_of_cell? w _ hw593_13)).trans hw593_13)⟩ (fun hHeld => ?_)
                    clear hK K
                    refine norm_ (a' := ?_) ?_ ?_
                    rotate_left
                    · show Act.put _ (some 14) _ = _
                      simp only [Act.put, List.setIfInBounds_toArray, List.set_cons_zero, List.set_cons_succ, i64_w, i32_w]
                      rfl
                    refine pure_ (i := 5) (N := some 15) (v := ?_) (a' := ?_) #[true, true, true, true, true, true, false, false, false, false, false, false, false, false, false, false, false, false, false, false, false, false, false, false] rfl rfl (any_of HT_.out (by kernel_rfl)) (fun _ _ _ h => h) (Or.inl ⟨by rfl, ?_⟩) ?_ ?_
                    rotate_left
                    · intro w'
                      go_simp
                      with_reducible rfl
                    rotate_left
                    · simp only [Act.put, List.setIfInBounds_toArray, List.set_cons_zero, List.set_cons_succ, i64_w, i32_w]
                      rfl
                    refine pure_ (i := 6) (N := some 16) (v := ?_) (a' := ?_) #[true, true, true, true, true, true, true, false, false, false, false, false, false, false, false, false, false, false, false, false, false, false, false, false] rfl rfl (any_of HT_.out (by kernel_rfl)) (fun _ _ _ h => h) (Or.inl ⟨by rfl, ?_⟩) ?_ ?_
                    rotate_left
                    · intro w'
                      go_simp
                      with_reducible rfl
                    rotate_left
                    · simp only [Act.put, List.setIfInBounds_toArray, List.set_cons_zero, List.set_cons_succ, i64_w, i32_w]
                      rfl
                    refine pure_ (i := 7) (N := some 17) (v := ?_) (a' := ?_) #[true, true, true, true, true, true, true, true, false, false, false, false, false, false, false, false, false, false, false, false, false, false, false, false] rfl rfl (any_of HT_.out (by kernel_rfl)) (fun _ _ _ h => h) (Or.inl ⟨by rfl, ?_⟩) ?_ ?_
                    rotate_left
                    · intro w'
                      go_simp
                      with_reducible rfl
                    rotate_left
                    · simp only [Act.put, List.setIfInBounds_toArray, List.set_cons_zero, List.set_cons_succ, i64_w, i32_w]
                      rfl
                    refine pure_ (i := 8) (N := some 18) (v := ?_) (a' := ?_) #[true, true, true, true, true, true, true, true, true, false, false, false, false, false, false, false, false, false, false, false, false, false, false, false] rfl rfl (any_of HT_.out (by kernel_rfl)) (fun _ _ _ h => h) (Or.inl ⟨by rfl, ?_⟩) ?_ ?_
                    rotate_left
                    · intro w'
                      go_simp
                      with_reducible rfl
                    rotate_left
                    · simp only [Act.put, List.setIfInBounds_toArray, List.set_cons_zero, List.set_cons_succ, i64_w, i32_w]
                      rfl
                    refine pure_ (i := 9) (N := some 19) (v := ?_) (a' := ?_) #[true, true, true, true, true, true, true, true, true, true, false, false, false, false, false, false, false, false, false, false, false, false, false, false] rfl rfl (any_of HT_.out (by kernel_rfl)) (fun _ _ _ h => h) (Or.inl ⟨by rfl, ?_⟩) ?_ ?_
                    rotate_left
                    · intro w'
                      go_simp
                      with_reducible rfl
                    rotate_left
                    · simp only [Act.put, List.setIfInBounds_toArray, List.set_cons_zero, List.set_cons_succ, i64_w, i32_w]
                      rfl
                    refine pure_ (i := 10) (N := some 20) (v := ?_) (a' := ?_) #[true, true, true, true, true, true, true, true, true, true, true, false, false, false, false, false, false, false, false, false, false, false, false, false] rfl rfl (any_of HT_.out (by kernel_rfl)) (fun _ _ _ h => h) (Or.inl ⟨by rfl, ?_⟩) ?_ ?_
                    rotate_left
                    · intro w'
                      go_simp
                      with_reducible rfl
                    rotate_left
                    · simp only [Act.put, List.setIfInBounds_toArray, List.set_cons_zero, List.set_cons_succ, i64_w, i32_w]
                      rfl
                    refine pure_ (i := 11) (N := some 21) (v := ?_) (a' := ?_) #[true, true, true, true, true, true, true, true, true, true, true, true, false, false, false, false, false, false, false, false, false, false, false, false] rfl rfl (any_of HT_.out (by kernel_rfl)) (fun _ _ _ h => h) (Or.inl ⟨by rfl, ?_⟩) ?_ ?_
                    rotate_left
                    · intro w'
                      go_simp
                      with_reducible rfl
                    rotate_left
                    · simp only [Act.put, List.setIfInBounds_toArray, List.set_cons_zero, List.set_cons_succ, i64_w, i32_w]
                      rfl
                    refine pure_ (i := 12) (N := some 22) (v := ?_) (a' := ?_) #[true, true, true, true, true, true, true, true, true, true, true, true, true, false, false, false, false, false, false, false, false, false, false, false] rfl rfl (any_of HT_.out (by kernel_rfl)) (fun _ _ _ h => h) (Or.inl ⟨by rfl, ?_⟩) ?_ ?_
                    rotate_left
                    · intro w'
                      go_simp
                      with_reducible rfl
                    rotate_left
                    · simp only [Act.put, List.setIfInBounds_toArray, List.set_cons_zero, List.set_cons_succ, i64_w, i32_w]
                      rfl
                    refine pure_ (i := 13) (N := some 23) (v := ?_) (a' := ?_) #[true, true, true, true, true, true, true, true, true, true, true, true, true, true, false, false, false, false, false, false, false, false, false, false] rfl rfl (any_of HT_.out (by kernel_rfl)) (fun _ _ _ h => h) (Or.inl ⟨by rfl, ?_⟩) ?_ ?_
                    rotate_left
                    · intro w'
                      go_simp
                      with_reducible rfl
                    rotate_left
                    · simp only [Act.put, List.setIfInBounds_toArray, List.set_cons_zero, List.set_cons_succ, i64_w, i32_w]
                      rfl
                    refine pure_ (i := 14) (N := some 24) (v := ?_) (a' := ?_) #[true, true, true, true, true, true, true, true, true, true, true, true, true, true, true, false, false, false, false, false, false, false, false, false] rfl rfl (any_of HT_.out (by kernel_rfl)) (fun _ _ _ h => h) (Or.inl ⟨by rfl, ?_⟩) ?_ ?_
                    rotate_left
                    · intro w'
                      go_simp
                      with_reducible rfl
                    rotate_left
                    · simp only [Act.put, List.setIfInBounds_toArray, List.set_cons_zero, List.set_cons_succ, i64_w, i32_w]
                      rfl
                    refine pure_ (i := 16) (N := some 26) (v := ?_) (a' := ?_) #[true, true, true, true, true, true, true, true, true, true, true, true, true, true, true, false, true, false, false, false, false, false, false, false] rfl rfl (any_of HT_.out (by kernel_rfl)) (fun _ _ _ h => h) (Or.inl ⟨by rfl, ?_⟩) ?_ ?_
                    rotate_left
                    · intro w'
                      go_simp
                      with_reducible rfl
                    rotate_left
                    · simp only [Act.put, List.setIfInBounds_toArray, List.set_cons_zero, List.set_cons_succ, i64_w, i32_w]
                      rfl
                    refine pure_ (i := 17) (N := some 27) (v := ?_) (a' := ?_) #[true, true, true, true, true, true, true, true, true, true, true, true, true, true, true, false, true, true, false, false, false, false, false, false] rfl rfl (any_of HT_.out (by kernel_rfl)) (fun _ _ _ h => h) (Or.inl ⟨by rfl, ?_⟩) ?_ ?_
                    rotate_left
                    · intro w'
                      go_simp
                      with_reducible rfl
                    rotate_left
                    · simp only [Act.put, List.setIfInBounds_toArray, List.set_cons_zero, List.set_cons_succ, i64_w, i32_w]
                      rfl
                    refine pure_ (i := 18) (N := some 28) (v := ?_) (a' := ?_) #[true, true, true, true, true, true, true, true, true, true, true, true, true, true, true, false, true, true, true, false, false, false, false, false] rfl rfl (any_of HT_.out (by kernel_rfl)) (fun _ _ _ h => h) (Or.inl ⟨by rfl, ?_⟩) ?_ ?_
                    rotate_left
                    · intro w'
                      go_simp
                      with_reducible rfl
                    rotate_left
                    · simp only [Act.put, List.setIfInBounds_toArray, List.set_cons_zero, List.set_cons_succ, i64_w, i32_w]
                      rfl
                    refine pure_ (i := 19) (N := some 29) (v := ?_) (a' := ?_) #[true, true, true, true, true, true, true, true, true, true, true, true, true, true, true, false, true, true, true, true, false, false, false, false] rfl rfl (any_of HT_.out (by kernel_rfl)) (fun _ _ _ h => h) (Or.inl ⟨by rfl, ?_⟩) ?_ ?_
                    rotate_left
                    · intro w'
                      go_simp
                      with_reducible rfl
                    rotate_left
                    · simp only [Act.put, List.setIfInBounds_toArray, List.set_cons_zero, List.set_cons_succ, i64_w, i32_w]
                      rfl
                    refine take_ (i := 15) (N := some 25) (v := ?_) (a' := ?_) #[true, true, true, true, true, true, true, true, true, true, true, true, true, true, true, true, true, true, true, true, false, false, false, false] rfl rfl (take_ofW HT_.out HW_.out (by kernel_rfl)) (fun _ _ _ h => h) (Or.inl ⟨by rfl, ?_⟩) hHeld ?_ ?_
                    rotate_left
                    · rintro w' ⟨s0, s1, s2, s3, s4, s5, s6, s7, s8, s9, s10, s11, s12, s13, s14, s15, s16, s17, s18, s19, s20, s21, s22, s23, s24, s25, s26, s27, s28, s29, s30, s31, s32, s33, s34, s35, s36, s37, s38, s39, s40, s41⟩
                      go_simp
                      with_reducible rfl
                    rotate_left
                    · simp only [Act.put, List.setIfInBounds_toArray, List.set_cons_zero, List.set_cons_succ, i64_w, i32_w]
                      rfl
                    refine take_ (i := 20) (N := some 30) (v := ?_) (a' := ?_) #[true, true, true, true, true, true, true, true, true, true, true, true, true, true, true, true, true, true, true, true, true, false, false, false] rfl rfl (take_ofW HT_.out HW_.out (by kernel_rfl)) (fun _ _ _ h => h) (Or.inl ⟨by rfl, ?_⟩) hHeld ?_ ?_
                    rotate_left
                    · rintro w' ⟨s0, s1, s2, s3, s4, s5, s6, s7, s8, s9, s10, s11, s12, s13, s14, s15, s16, s17, s18, s19, s20, s21, s22, s23, s24, s25, s26, s27, s28, s29, s30, s31, s32, s33, s34, s35, s36, s37, s38, s39, s40, s41⟩
                      go_simp
                      with_reducible rfl
                    rotate_left
                    · simp only [Act.put, List.setIfInBounds_toArray, List.set_cons_zero, List.set_cons_succ, i64_w, i32_w]
                      rfl
                    refine pure_ (i := 21) (N := some 31) (v := ?_) (a' := ?_) #[true, true, true, true, true, true, true, true, true, true, true, true, true, true, true, true, true, true, true, true, true, true, false, false] rfl rfl (any_of HT_.out (by kernel_rfl)) (fun _ _ _ h => h) (Or.inl ⟨by rfl, ?_⟩) ?_ ?_
                    rotate_left
                    · intro w'
                      go_simp
                      with_reducible rfl
                    rotate_left
                    · simp only [Act.put, List.setIfInBounds_toArray, List.set_cons_zero, List.set_cons_succ, i64_w, i32_w]
                      rfl
                    refine pure_ (i := 22) (N := some 32) (v := ?_) (a' := ?_) #[true, true, true, true, true, true, true, true, true, true, true, true, true, true, true, true, true, true, true, true, true, true, true, false] rfl rfl (any_of HT_.out (by kernel_rfl)) (fun _ _ _ h => h) (Or.inl ⟨by rfl, ?_⟩) ?_ ?_
                    rotate_left
                    · intro w'
                      go_simp
                      with_reducible rfl
                    rotate_left
                    · simp only [Act.put, List.setIfInBounds_toArray, List.set_cons_zero, List.set_cons_succ, i64_w, i32_w]
                      rfl
                    refine pure_ (i := 23) (N := some 33) (v := ?_) (a' := ?_) #[true, true, true, true, true, true, true, true, true, true, true, true, true, true, true, true, true, true, true, true, true, true, true, true] rfl rfl (any_of HT_.out (by kernel_rfl)) (fun _ _ _ h => h) (Or.inl ⟨by rfl, ?_⟩) ?_ ?_
                    rotate_left
                    · intro w'
                      go_simp
                      with_reducible rfl
                    rotate_left
                    · simp only [Act.put, List.setIfInBounds_toArray, List.set_cons_zero, List.set_cons_succ, i64_w, i32_w]
                      rfl
                    refine done_ (done_of HT_.out (by kernel_rfl)) ?_
                    try go_wp2
                    go_ret
                    exact ⟨by first | rfl | (simp [errW_none, errW_some] <;> rfl) | (simp only [← hji7]; first | rfl | (simp [errW_none, errW_some] <;> rfl)) | (simp [*, errW_none, errW_some] <;> rfl), by repeat (first | (with_reducible first | exact HB.out | apply below_alloc | apply pw_below_drewN | apply below_drew1) | exact HB.out)⟩
                  · rw [if_neg c10] at H
                    have c10b0 : decide (((rd_T24 l0 x3_1).f0) ≤ ((rd_T24 l0 (ji7)).f0)) = false := decide_eq_false c10
                    clear c10
                    have H' := Aside0.mk H
                    clear H
                    try go_wp2
                    have n0_ := Aside0.mk (below_drew1 HB.out)
                    clear HB
                    have HB := n0_
                    clear n0_
                    have p590 : 0 ≤ (x3_1 : Int) := of_decide_eq_true (by first | (with_reducible assumption) | assumption)
                    have q590 : x3_1 < (l0.length : Int) := of_decide_eq_true (by first | (with_reducible assumption) | assumption)
                    obtain ⟨ad590, e590, hx590_0, hx590_1, hx590_2, hx590_3, hx590_4, hx590_5, hx590_6, hx590_7, hx590_8, hx590_9, hx590_10, hx590_11, hx590_12, hx590_13⟩ := at_T24 HR0.out x3_1 p590 q590
                    have hw590_13 := hx590_13
                    have hw590_12 := hx590_12
                    have hw590_11 := hx590_11
                    have hw590_10 := hx590_10
                    have hw590_9 := hx590_9
                    have hw590_8 := hx590_8
                    have hw590_7 := hx590_7
                    have hw590_6 := hx590_6
                    have hw590_5 := hx590_5
                    have hw590_4 := hx590_4
                    have hw590_3 := hx590_3
                    have hw590_2 := hx590_2
                    have hw590_1 := hx590_1
                    have hw590_0 := hx590_0
                    cases e590
                    replace hx590_0 := (HB.out.cell (World.block_lt_of_cell? w _ hx590_0)).trans hx590_0
                    replace hx590_1 := (HB.out.cell (World.block_lt_of_cell? w _ hx590_1)).trans hx590_1
                    replace hx590_2 := (HB.out.cell (World.block_lt_of_cell? w _ hx590_2)).trans hx590_2
                    replace hx590_3 := (HB.out.cell (World.block_lt_of_cell? w _ hx590_3)).trans hx590_3
                    replace hx590_4 := (HB.out.cell (World.block_lt_of_cell? w _ hx590_4)).trans hx590_4
                    replace hx590_5 := (HB.out.cell (World.block_lt_of_cell? w _ hx590_5)).trans hx590_5
                    replace hx590_6 := (HB.out.cell (World.block_lt_of_cell? w _ hx590_6)).trans hx590_6
                    replace hx590_7 := (HB.out.cell (World.block_lt_of_cell? w _ hx590_7)).trans hx590_7
                    replace hx590_8 := (HB.out.cell (World.block_lt_of_cell? w _ hx590_8)).trans hx590_8
                    replace hx590_9 := (HB.out.cell (World.block_lt_of_cell? w _ hx590_9)).trans hx590_9
                    replace hx590_10 := (HB.out.cell (World.block_lt_of_cell? w _ hx590_10)).trans hx590_10
                    replace hx590_11 := (HB.out.cell (World.block_lt_of_cell? w _ hx590_11)).trans hx590_11
                    replace hx590_12 := (HB.out.cell (World.block_lt_of_cell? w _ hx590_12)).trans hx590_12
                    replace hx590_13 := (HB.out.cell (World.block_lt_of_cell? w _ hx590_13)).trans hx590_13
                    replace p590 := eq_true p590
                    replace q590 := eq_true q590
                    have p592 : 0 ≤ ((ji7) : Int) := of_decide_eq_true (by first | (with_reducible assumption) | assumption)
                    have q592 : (ji7) < (l0.length : Int) := of_decide_eq_true (by first | (with_reducible assumption) | assumption)
                    obtain ⟨ad592, e592, hx592_0, hx592_1, hx592_2, hx592_3, hx592_4, hx592_5, hx592_6, hx592_7, hx592_8, hx592_9, hx592_10, hx592_11, hx592_12, hx592_13⟩ := at_T24 HR0.out (ji7) p592 q592
                    have hw592_13 := hx592_13
                    have hw592_12 := hx592_12
                    have hw592_11 := hx592_11
                    have hw592_10 := hx592_10
                    have hw592_9 := hx592_9
                    have hw592_8 := hx592_8
                    have hw592_7 := hx592_7
                    have hw592_6 := hx592_6
                    have hw592_5 := hx592_5
                    have hw592_4 := hx592_4
                    have hw592_3 := hx592_3
                    have hw592_2 := hx592_2
                    have hw592_1 := hx592_1
                    have hw592_0 := hx592_0
                    obtain rfl : ad590 = ad592 := (by injection e592)
                    replace hx592_0 := (HB.out.cell (World.block_lt_of_cell? w _ hx592_0)).trans hx592_0
                    replace hx592_1 := (HB.out.cell (World.block_lt_of_cell? w _ hx592_1)).trans hx592_1
                    replace hx592_2 := (HB.out.cell (World.block_lt_of_cell? w _ hx592_2)).trans hx592_2
                    replace hx592_3 := (HB.out.cell (World.block_lt_of_cell? w _ hx592_3)).trans hx592_3
                    replace hx592_4 := (HB.out.cell (World.block_lt_of_cell? w _ hx592_4)).trans hx592_4
                    replace hx592_5 := (HB.out.cell (World.block_lt_of_cell? w _ hx592_5)).trans hx592_5
                    replace hx592_6 := (HB.out.cell (World.block_lt_of_cell? w _ hx592_6)).trans hx592_6
                    replace hx592_7 := (HB.out.cell (World.block_lt_of_cell? w _ hx592_7)).trans hx592_7
                    replace hx592_8 := (HB.out.cell (World.block_lt_of_cell? w _ hx592_8)).trans hx592_8
                    replace hx592_9 := (HB.out.cell (World.block_lt_of_cell? w _ hx592_9)).trans hx592_9
                    replace hx592_10 := (HB.out.cell (World.block_lt_of_cell? w _ hx592_10)).trans hx592_10
                    replace hx592_11 := (HB.out.cell (World.block_lt_of_cell? w _ hx592_11)).trans hx592_11
                    replace hx592_12 := (HB.out.cell (World.block_lt_of_cell? w _ hx592_12)).trans hx592_12
                    replace hx592_13 := (HB.out.cell (World.block_lt_of_cell? w _ hx592_13)).trans hx592_13
                    replace p592 := eq_true p592
                    replace q592 := eq_true q592
                    have p593 : 0 ≤ (x3_1 : Int) := of_decide_eq_true (by first | (with_reducible assumption) | assumption)
                    have q593 : x3_1 < (l0.length : Int) := of_decide_eq_true (by first | (with_reducible assumption) | assumption)
                    obtain ⟨ad593, e593, hx593_0, hx593_1, hx593_2, hx593_3, hx593_4, hx593_5, hx593_6, hx593_7, hx593_8, hx593_9, hx593_10, hx593_11, hx593_12, hx593_13⟩ := at_T24 HR0.out x3_1 p593 q593
                    have hw593_13 := hx593_13
                    have hw593_12 := hx593_12
                    have hw593_11 := hx593_11
                    have hw593_10 := hx593_10
                    have hw593_9 := hx593_9
                    have hw593_8 := hx593_8
                    have hw593_7 := hx593_7
                    have hw593_6 := hx593_6
                    have hw593_5 := hx593_5
                    have hw593_4 := hx593_4
                    have hw593_3 := hx593_3
                    have hw593_2 := hx593_2
                    have hw593_1 := hx593_1
                    have hw593_0 := hx593_0
                    obtain rfl : ad590 = ad593 := (by injection e593)
                    replace hx593_0 := (HB.out.cell (World.block_lt_of_cell? w _ hx593_0)).trans hx593_0
                    replace hx593_1 := (HB.out.cell (World.block_lt_of_cell? w _ hx593_1)).trans hx593_1
                    replace hx593_2 := (HB.out.cell (World.block_lt_of_cell? w _ hx593_2)).trans hx593_2
                    replace hx593_3 := (HB.out.cell (World.block_lt_of_cell? w _ hx593_3)).trans hx593_3
                    replace hx593_4 := (HB.out.cell (World.block_lt_of_cell? w _ hx593_4)).trans hx593_4
                    replace hx593_5 := (HB.out.cell (World.block_lt_of_cell? w _ hx593_5)).trans hx593_5
                    replace hx593_6 := (HB.out.cell (World.block_lt_of_cell? w _ hx593_6)).trans hx593_6
                    replace hx593_7 := (HB.out.cell (World.block_lt_of_cell? w _ hx593_7)).trans hx593_7
                    replace hx593_8 := (HB.out.cell (World.block_lt_of_cell? w _ hx593_8)).trans hx593_8
                    replace hx593_9 := (HB.out.cell (World.block_lt_of_cell? w _ hx593_9)).trans hx593_9
                    replace hx593_10 := (HB.out.cell (World.block_lt_of_cell? w _ hx593_10)).trans hx593_10
                    replace hx593_11 := (HB.out.cell (World.block_lt_of_cell? w _ hx593_11)).trans hx593_11
                    replace hx593_12 := (HB.out.cell (World.block_lt_of_cell? w _ hx593_12)).trans hx593_12
                    replace hx593_13 := (HB.out.cell (World.block_lt_of_cell? w _ hx593_13)).trans hx593_13
                    replace p593 := eq_true p593
                    replace q593 := eq_true q593
                    refine start_ (n := 24) (S := fun w' => w'.cell? (ad590.add ((x3_1).toNat * 14)) = some (.int .i64 ((rd_T24 l0 x3_1).f0)) ∧ w'.cell? ⟨(ad590.add ((x3_1).toNat * 14)).block, (ad590.add ((x3_1).toNat * 14)).off + 1, none⟩ = some (.int .i64 ((rd_T24 l0 x3_1).f1)) ∧ w'.cell? ⟨(ad590.add ((x3_1).toNat * 14)).block, (ad590.add ((x3_1).toNat * 14)).off + 2, none⟩ = some (.int .i64 ((rd_T24 l0 x3_1).f2)) ∧ w'.cell? ⟨(ad590.add ((x3_1).toNat * 14)).block, (ad590.add ((x3_1).toNat * 14)).off + 3, none⟩ = some (.int .i64 ((rd_T24 l0 x3_1).f3)) ∧ w'.cell? ⟨(ad590.add ((x3_1).toNat * 14)).block, (ad590.add ((x3_1).toNat * 14)).off + 4, none⟩ = some (.bool ((rd_T24 l0 x3_1).f4)) ∧ w'.cell? ⟨(ad590.add ((x3_1).toNat * 14)).block, (ad590.add ((x3_1).toNat * 14)).off + 5, none⟩ = some (.int .i64 ((rd_T24 l0 x3_1).f5)) ∧ w'.cell? ⟨(ad590.add ((x3_1).toNat * 14)).block, (ad590.add ((x3_1).toNat * 14)).off + 6, none⟩ = some (.int .i64 ((rd_T24 l0 x3_1).f6)) ∧ w'.cell? ⟨(ad590.add ((x3_1).toNat * 14)).block, (ad590.add ((x3_1).toNat * 14)).off + 7, none⟩ = some (.int .i64 ((rd_T24 l0 x3_1).f7)) ∧ w'.cell? ⟨(ad590.add ((x3_1).toNat * 14)).block, (ad590.add ((x3_1).toNat * 14)).off + 8, none⟩ = some (.int .i64 ((rd_T24 l0 x3_1).f8)) ∧ w'.cell? ⟨(ad590.add ((x3_1).toNat * 14)).block, (ad590.add ((x3_1).toNat * 14)).off + 9, none⟩ = some (.int .i64 ((rd_T24 l0 x3_1).f9)) ∧ w'.cell? ⟨(ad590.add ((x3_1).toNat * 14)).block, (ad590.add ((x3_1).toNat * 14)).off + 10, none⟩ = some (.int .i64 ((rd_T24 l0 x3_1).f10)) ∧ w'.cell? ⟨(ad590.add ((x3_1).toNat * 14)).block, (ad590.add ((x3_1).toNat * 14)).off + 11, none⟩ = some (.int .i64 ((rd_T24 l0 x3_1).f11)) ∧ w'.cell? ⟨(ad590.add ((x3_1).toNat * 14)).block, (ad590.add ((x3_1).toNat * 14)).off + 12, none⟩ = some (.int .i64 ((rd_T24 l0 x3_1).f12)) ∧ w'.cell? ⟨(ad590.add ((x3_1).toNat * 14)).block, (ad590.add ((x3_1).toNat * 14)).off + 13, none⟩ = some (.int .i64 ((rd_T24 l0 x3_1).f13)) ∧ w'.cell? (ad590.add (((ji7)).toNat * 14)) = some (.int .i64 ((rd_T24 l0 (ji7)).f0)) ∧ w'.cell? ⟨(ad590.add (((ji7)).toNat * 14)).block, (ad590.add (((ji7)).toNat * 14)).off + 1, none⟩ = some (.int .i64 ((rd_T24 l0 (ji7)).f1)) ∧ w'.cell? ⟨(ad590.add (((ji7)).toNat * 14)).block, (ad590.add (((ji7)).toNat * 14)).off + 2, none⟩ = some (.int .i64 ((rd_T24 l0 (ji7)).f2)) ∧ w'.cell? ⟨(ad590.add (((ji7)).toNat * 14)).block, (ad590.add (((ji7)).toNat * 14)).off + 3, none⟩ = some (.int .i64 ((rd_T24 l0 (ji7)).f3)) ∧ w'.cell? ⟨(ad590.add (((ji7)).toNat * 14)).block, (ad590.add (((ji7)).toNat * 14)).off + 4, none⟩ = some (.bool ((rd_T24 l0 (ji7)).f4)) ∧ w'.cell? ⟨(ad590.add (((ji7)).toNat * 14)).block, (ad590.add (((ji7)).toNat * 14)).off + 5, none⟩ = some (.int .i64 ((rd_T24 l0 (ji7)).f5)) ∧ w'.cell? ⟨(ad590.add (((ji7)).toNat * 14)).block, (ad590.add (((ji7)).toNat * 14)).off + 6, none⟩ = some (.int .i64 ((rd_T24 l0 (ji7)).f6)) ∧ w'.cell? ⟨(ad590.add (((ji7)).toNat * 14)).block, (ad590.add (((ji7)).toNat * 14)).off + 7, none⟩ = some (.int .i64 ((rd_T24 l0 (ji7)).f7)) ∧ w'.cell? ⟨(ad590.add (((ji7)).toNat * 14)).block, (ad590.add (((ji7)).toNat * 14)).off + 8, none⟩ = some (.int .i64 ((rd_T24 l0 (ji7)).f8)) ∧ w'.cell? ⟨(ad590.add (((ji7)).toNat * 14)).block, (ad590.add (((ji7)).toNat * 14)).off + 9, none⟩ = some (.int .i64 ((rd_T24 l0 (ji7)).f9)) ∧ w'.cell? ⟨(ad590.add (((ji7)).toNat * 14)).block, (ad590.add (((ji7)).toNat * 14)).off + 10, none⟩ = some (.int .i64 ((rd_T24 l0 (ji7)).f10)) ∧ w'.cell? ⟨(ad590.add (((ji7)).toNat * 14)).block, (ad590.add (((ji7)).toNat * 14)).off + 11, none⟩ = some (.int .i64 ((rd_T24 l0 (ji7)).f11)) ∧ w'.cell? ⟨(ad590.add (((ji7)).toNat * 14)).block, (ad590.add (((ji7)).toNat * 14)).off + 12, none⟩ = some (.int .i64 ((rd_T24 l0 (ji7)).f12)) ∧ w'.cell? ⟨(ad590.add (((ji7)).toNat * 14)).block, (ad590.add (((ji7)).toNat * 14)).off + 13, none⟩ = some (.int .i64 ((rd_T24 l0 (ji7)).f13)) ∧ w'.cell? (ad590.add ((x3_1).toNat * 14)) = some (.int .i64 ((rd_T24 l0 x3_1).f0)) ∧ w'.cell? ⟨(ad590.add ((x3_1).toNat * 14)).block, (ad590.add ((x3_1).toNat * 14)).off + 1, none⟩ = some (.int .i64 ((rd_T24 l0 x3_1).f1)) ∧ w'.cell? ⟨(ad590.add ((x3_1).toNat * 14)).block, (ad590.add ((x3_1).toNat * 14)).off + 2, none⟩ = some (.int .i64 ((rd_T24 l0 x3_1).f2)) ∧ w'.cell? ⟨(ad590.add ((x3_1).toNat * 14)).block, (ad590.add ((x3_1).toNat * 14)).off + 3, none⟩ = some (.int .i64 ((rd_T24 l0 x3_1).f3)) ∧ w'.cell? ⟨(ad590.add ((x3_1).toNat * 14)).block, (ad590.add ((x3_1).toNat * 14)).off + 4, none⟩ = some (.bool ((rd_T24 l0 x3_1).f4)) ∧ w'.cell? ⟨(ad590.add ((x3_1).toNat * 14)).block, (ad590.add ((x3_1).toNat * 14)).off + 5, none⟩ = some (.int .i64 ((rd_T24 l0 x3_1).f5)) ∧ w'.cell? ⟨(ad590.add ((x3_1).toNat * 14)).block, (ad590.add ((x3_1).toNat * 14)).off + 6, none⟩ = some (.int .i64 ((rd_T24 l0 x3_1).f6)) ∧ w'.cell? ⟨(ad590.add ((x3_1).toNat * 14)).block, (ad590.add ((x3_1).toNat * 14)).off + 7, none⟩ = some (.int .i64 ((rd_T24 l0 x3_1).f7)) ∧ w'.cell? ⟨(ad590.add ((x3_1).toNat * 14)).block, (ad590.add ((x3_1).toNat * 14)).off + 8, none⟩ = some (.int .i64 ((rd_T24 l0 x3_1).f8)) ∧ w'.cell? ⟨(ad590.add ((x3_1).toNat * 14)).block, (ad590.add ((x3_1).toNat * 14)).off + 9, none⟩ = some (.int .i64 ((rd_T24 l0 x3_1).f9)) ∧ w'.cell? ⟨(ad590.add ((x3_1).toNat * 14)).block, (ad590.add ((x3_1).toNat * 14)).off + 10, none⟩ = some (.int .i64 ((rd_T24 l0 x3_1).f10)) ∧ w'.cell? ⟨(ad590.add ((x3_1).toNat * 14)).block, (ad590.add ((x3_1).toNat * 14)).off + 11, none⟩ = some (.int .i64 ((rd_T24 l0 x3_1).f11)) ∧ w'.cell? ⟨(ad590.add ((x3_1).toNat * 14)).block, (ad590.add ((x3_1).toNat * 14)).off + 12, none⟩ = some (.int .i64 ((rd_T24 l0 x3_1).f12)) ∧ w'.cell? ⟨(ad590.add ((x3_1).toNat * 14)).block, (ad590.add ((x3_1).toNat * 14)).off + 13, none⟩ = some (.int .i64 ((rd_T24 l0 x3_1).f13))) (ds := []) #[false, false, false, false, false, false, false, false, false, false, false, false, false, false, false, false, false, false, false, false, false, false, false, false] (by kernel_rfl) rfl rfl ⟨((HB.out.cell (World.block_lt_of_cell? w _ hw590_0)).trans hw590_0), ((HB.out.cell (World.block_lt_of_cell? w _ hw590_1)).trans hw590_1), ((HB.out.cell (World.block_lt_of_cell? w _ hw590_2)).trans hw590_2), ((HB.out.cell (World.block_lt_of_cell? w _ hw590_3)).trans hw590_3), ((HB.out.cell (World.block_lt_of_cell? w _ hw590_4)).trans hw590_4), ((HB.out.cell (World.block_lt_of_cell? w _ hw590_5)).trans hw590_5), ((HB.out.cell (World.block_lt_of_cell? w _ hw590_6)).trans hw590_6), ((HB.out.cell (World.block_lt_of_cell? w _ hw590_7)).trans hw590_7), ((HB.out.cell (World.block_lt_of_cell? w _ hw590_8)).trans hw590_8), ((HB.out.cell (World.block_lt_of_cell? w _ hw590_9)).trans hw590_9), ((HB.out.cell (World.block_lt_of_cell? w _ hw590_10)).trans hw590_10), ((HB.out.cell (World.block_lt_of_cell? w _ hw590_11)).trans hw590_11), ((HB.out.cell (World.block_lt_of_cell? w _ hw590_12)).trans hw590_12), ((HB.out.cell (World.block_lt_of_cell? w _ hw590_13)).trans hw590_13), ((HB.out.cell (World.block_lt_of_cell? w _ hw592_0)).trans hw592_0), ((HB.out.cell (World.block_lt_of_cell? w _ hw592_1)).trans hw592_1), ((HB.out.cell (World.block_lt_of_cell? w _ hw592_2)).trans hw592_2), ((HB.out.cell (World.block_lt_of_cell? w _ hw592_3)).trans hw592_3), ((HB.out.cell (World.block_lt_of_cell? w _ hw592_4)).trans hw592_4), ((HB.out.cell (World.block_lt_of_cell? w _ hw592_5)).trans hw592_5), ((HB.out.cell (World.block_lt_of_cell? w _ hw592_6)).trans hw592_6), ((HB.out.cell (World.block_lt_of_cell? w _ hw592_7)).trans hw592_7), ((HB.out.cell (World.block_lt_of_cell? w _ hw592_8)).trans hw592_8), ((HB.out.cell (World.block_lt_of_cell? w _ hw592_9)).trans hw592_9), ((HB.out.cell (World.block_lt_of_cell? w _ hw592_10)).trans hw592_10), ((HB.out.cell (World.block_lt_of_cell? w _ hw592_11)).trans hw592_11), ((HB.out.cell (World.block_lt_of_cell? w _ hw592_12)).trans hw592_12), ((HB.out.cell (World.block_lt_of_cell? w _ hw592_13)).trans hw592_13), ((HB.out.cell (World.block_lt_of_cell? w _ hw593_0)).trans hw593_0), ((HB.out.cell (World.block_lt_of_cell? w _ hw593_1)).trans hw593_1), ((HB.out.cell (World.block_lt_of_cell? w _ hw593_2)).trans hw593_2), ((HB.out.cell (World.block_lt_of_cell? w _ hw593_3)).trans hw593_3), ((HB.out.cell (World.block_lt_of_cell? w _ hw593_4)).trans hw593_4), ((HB.out.cell (World.block_lt_of_cell? w _ hw593_5)).trans hw593_5), ((HB.out.cell (World.block_lt_of_cell? w _ hw593_6)).trans hw593_6), ((HB.out.cell (World.block_lt_of_cell? w _ hw593_7)).trans hw593_7), ((HB.out.cell (World.block_lt_of_cell? w _ hw593_8)).trans hw593_8), ((HB.out.cell (World.block_lt_of_cell? w _ hw593_9)).trans hw593_9), ((HB.out.cell (World.block_lt_of_cell? w _ hw593_10)).trans hw593_10), ((HB.out.cell (World.block_lt_of_cell? w _ hw593_11)).trans hw593_11), ((HB.out.cell (World.block_lt_of_cell? w _ hw593_12)).trans hw593_12), ((HB.out.cell (World.block_lt_of_cell? w _ hw593_13)).trans hw593_13)⟩ (fun hHeld => ?_); refine with_tabW spec_TasksOk.tab4 spec_TasksOk.bits4 (fun HT_ HW_ => ?_)
                    generalize wr.drew = w13 at HB hx590_0 hx590_1 hx590_10 hx590_11 hx590_12 hx590_13 hx590_2 hx590_3 hx590_4 hx590_5 hx590_6 hx590_7 hx590_8 hx590_9 hx592_0 hx592_1 hx592_10 hx592_11 hx592_12 hx592_13 hx592_2 hx592_3 hx592_4 hx592_5 hx592_6 hx592_7 hx592_8 hx592_9 hx593_0 hx593_1 hx593_10 hx593_11 hx593_12 hx593_13 hx593_2 hx593_3 hx593_4 hx593_5 hx593_6 hx593_7 hx593_8 hx593_9 hHeld ⊢
                    refine pure_ (i := 0) (N := some 10) (v := ?_) (a' := ?_) #[true, false, false, false, false, false, false, false, false, false, false, false, false, false, false, false, false, false, false, false, false, false, false, false] rfl rfl (any_of HT_.out (by kernel_rfl)) (fun _ _ _ h => h) (Or.inl ⟨by rfl, ?_⟩) ?_ ?_
                    rotate_left
                    · intro w'
                      go_simp
                      with_reducible rfl
                    rotate_left
                    · simp only [Act.put, List.setIfInBounds_toArray, List.set_cons_zero, List.set_cons_succ, i64_w, i32_w]
                      rfl
                    refine pure_ (i := 1) (N := some 11) (v := ?_) (a' := ?_) #[true, true, false, false, false, false, false, false, false, false, false, false, false, false, false, false, false, false, false, false, false, false, false, false] rfl rfl (any_of HT_.out (by kernel_rfl)) (fun _ _ _ h => h) (Or.inl ⟨by rfl, ?_⟩) ?_ ?_
                    rotate_left
                    · intro w'
                      go_simp
                      with_reducible rfl
                    rotate_left
                    · simp only [Act.put, List.setIfInBounds_toArray, List.set_cons_zero, List.set_cons_succ, i64_w, i32_w]
                      rfl
                    refine pure_ (i := 2) (N := some 12) (v := ?_) (a' := ?_) #[true, true, true, false, false, false, false, false, false, false, false, false, false, false, false, false, false, false, false, false, false, false, false, false] rfl rfl (any_of HT_.out (by kernel_rfl)) (fun _ _ _ h => h) (Or.inl ⟨by rfl, ?_⟩) ?_ ?_
                    rotate_left
                    · intro w'
                      go_simp
                      with_reducible rfl
                    rotate_left
                    · simp only [Act.put, List.setIfInBounds_toArray, List.set_cons_zero, List.set_cons_succ, i64_w, i32_w]
                      rfl
                    refine take_ (i := 3) (N := some 13) (v := ?_) (a' := ?_) #[true, true, true, true, false, false, false, false, false, false, false, false, false, false, false, false, false, false, false, false, false, false, false, false] rfl rfl (take_ofW HT_.out HW_.out (by kernel_rfl)) (fun _ _ _ h => h) (Or.inl ⟨by rfl, ?_⟩) hHeld ?_ ?_
                    rotate_left
                    · rintro w' ⟨s0, s1, s2, s3, s4, s5, s6, s7, s8, s9, s10, s11, s12, s13, s14, s15, s16, s17, s18, s19, s20, s21, s22, s23, s24, s25, s26, s27, s28, s29, s30, s31, s32, s33, s34, s35, s36, s37, s38, s39, s40, s41⟩
                      go_simp
                      with_reducible rfl
                    rotate_left
                    · simp only [Act.put, List.setIfInBounds_toArray, List.set_cons_zero, List.set_cons_succ, i64_w, i32_w]
                      rfl
                    refine one_ (i := 4) (N := some 14) #[true, true, true, true, true, false, false, false, false, false, false, false, false, false, false, false, false, false, false, false, false, false, false, false] rfl rfl (one_of HT_.out (by kernel_rfl)) (by decide) (fun K hK => ?_)
                    refine goes_ Try.func49 (by kernel_rfl) rfl #[.agg #[.int .i64 ((rd_T24 l0 x3_1).f0), .int .i64 ((rd_T24 l0 x3_1).f1), .int .i64 ((rd_T24 l0 x3_1).f2), .int .i64 ((rd_T24 l0 x3_1).f3), .bool ((rd_T24 l0 x3_1).f4), .int .i64 ((rd_T24 l0 x3_1).f5), .int .i64 ((rd_T24 l0 x3_1).f6), .int .i64 ((rd_T24 l0 x3_1).f7), .int .i64 ((rd_T24 l0 x3_1).f8), .int .i64 ((rd_T24 l0 x3_1).f9), .int .i64 ((rd_T24 l0 x3_1).f10), .int .i64 ((rd_T24 l0 x3_1).f11), .int .i64 ((rd_T24 l0 x3_1).f12), .int .i64 ((rd_T24 l0 x3_1).f13)]] (by rfl) rfl rfl (by (try simp only [List.map_toArray, List.map_cons, List.map_nil]); first | done | rfl | (simp only [List.length_drop, List.length_take]; rfl)) ?_
                    with_reducible refine (spec_TaskOk.calls ((rd_T24 l0 x3_1).f0) ((rd_T24 l0 x3_1).f1) ((rd_T24 l0 x3_1).f2) ((rd_T24 l0 x3_1).f3) ((rd_T24 l0 x3_1).f4) ((rd_T24 l0 x3_1).f5) ((rd_T24 l0 x3_1).f6) ((rd_T24 l0 x3_1).f7) ((rd_T24 l0 x3_1).f8) ((rd_T24 l0 x3_1).f9) ((rd_T24 l0 x3_1).f10) ((rd_T24 l0 x3_1).f11) ((rd_T24 l0 x3_1).f12) ((rd_T24 l0 x3_1).f13) true _ A4.out).mono ?_
                    rintro e w14 ⟨rfl, hb⟩
                    refine ⟨_, rfl, ?_⟩
                    have n0_ := Aside0.mk (below_step (by repeat (first | (with_reducible first | exact HB.out | apply below_alloc | apply pw_below_drewN | apply below_drew1) | exact HB.out)) hb)
                    clear HB
                    have HB := n0_
                    clear n0_
                    (try clear hb)
                    (try clear hb2)
                    (try clear hk)
                    (try clear hi)
                    refine hK.out _ _ ⟨((HB.out.cell (World.block_lt_of_cell? w _ hw590_0)).trans hw590_0), ((HB.out.cell (World.block_lt_of_cell? w _ hw590_1)).trans hw590_1), ((HB.out.cell (World.block_lt_of_cell? w _ hw590_2)).trans hw590_2), ((HB.out.cell (World.block_lt_of_cell? w _ hw590_3)).trans hw590_3), ((HB.out.cell (World.block_lt_of_cell? w _ hw590_4)).trans hw590_4), ((HB.out.cell (World.block_lt_of_cell? w _ hw590_5)).trans hw590_5), ((HB.out.cell (World.block_lt_of_cell? w _ hw590_6)).trans hw590_6), ((HB.out.cell (World.block_lt_of_cell? w _ hw590_7)).trans hw590_7), ((HB.out.cell (World.block_lt_of_cell? w _ hw590_8)).trans hw590_8), ((HB.out.cell (World.block_lt_of_cell? w _ hw590_9)).trans hw590_9), ((HB.out.cell (World.block_lt_of_cell? w _ hw590_10)).trans hw590_10), ((HB.out.cell (World.block_lt_of_cell? w _ hw590_11)).trans hw590_11), ((HB.out.cell (World.block_lt_of_cell? w _ hw590_12)).trans hw590_12), ((HB.out.cell (World.block_lt_of_cell? w _ hw590_13)).trans hw590_13), ((HB.out.cell (World.block_lt_of_cell? w _ hw592_0)).trans hw592_0), ((HB.out.cell (World.block_lt_of_cell? w _ hw592_1)).trans hw592_1), ((HB.out.cell (World.block_lt_of_cell? w _ hw592_2)).trans hw592_2), ((HB.out.cell (World.block_lt_of_cell? w _ hw592_3)).trans hw592_3), ((HB.out.cell (World.block_lt_of_cell? w _ hw592_4)).trans hw592_4), ((HB.out.cell (World.block_lt_of_cell? w _ hw592_5)).trans hw592_5), ((HB.out.cell (World.block_lt_of_cell? w _ hw592_6)).trans hw592_6), ((HB.out.cell (World.block_lt_of_cell? w _ hw592_7)).trans hw592_7), ((HB.out.cell (World.block_lt_of_cell? w _ hw592_8)).trans hw592_8), ((HB.out.cell (World.block_lt_of_cell? w _ hw592_9)).trans hw592_9), ((HB.out.cell (World.block_lt_of_cell? w _ hw592_10)).trans hw592_10), ((HB.out.cell (World.block_lt_of_cell? w _ hw592_11)).trans hw592_11), ((HB.out.cell (World.block_lt_of_cell? w _ hw592_12)).trans hw592_12), ((HB.out.cell (World.block_lt_of_cell? w _ hw592_13)).trans hw592_13), ((HB.out.cell (World.block_lt_of_cell? w _ hw593_0)).trans hw593_0), ((HB.out.cell (World.block_lt_of_cell? w _ hw593_1)).trans hw593_1), ((HB.out.cell (World.block_lt_of_cell? w _ hw593_2)).trans hw593_2), ((HB.out.cell (World.block_lt_of_cell? w _ hw593_3)).trans hw593_3), ((HB.out.cell (World.block_lt_of_cell? w _ hw593_4)).trans hw593_4), ((HB.out.cell (World.block_lt_of_cell? w _ hw593_5)).trans hw593_5), ((HB.out.cell (World.block_lt_of_cell? w _ hw593_6)).trans hw593_6), ((HB.out.cell (World.block_lt_of_cell? w _ hw593_7)).trans hw593_7), ((HB.out.cell (World.block_lt_of_cell? w _ hw593_8)).trans hw593_8), ((HB.out.cell (World.block_lt_of_cell? w _ hw593_9)).trans hw593_9), ((HB.out.cell (World.block_lt_of_cell? w _ hw593_10)).trans hw593_10), ((HB.out.cell (World.block_lt_of_cell? w _ hw593_11)).trans hw593_11), ((HB.out.cell (World.block_lt_of_cell? w _ hw593_12)).trans hw593_12), ((HB.out.cell (World.block_lt_of_cell? w _ hw593_13)).trans hw593_13)⟩ (fun hHeld => ?_)
                    clear hK K
                    refine norm_ (a' := ?_) ?_ ?_
                    rotate_left
                    · show Act.put _ (some 14) _ = _
                      simp only [Act.put, List.setIfInBounds_toArray, List.set_cons_zero, List.set_cons_succ, i64_w, i32_w]
                      rfl
                    refine pure_ (i := 5) (N := some 15) (v := ?_) (a' := ?_) #[true, true, true, true, true, true, false, false, false, false, false, false, false, false, false, false, false, false, false, false, false, false, false, false] rfl rfl (any_of HT_.out (by kernel_rfl)) (fun _ _ _ h => h) (Or.inl ⟨by rfl, ?_⟩) ?_ ?_
                    rotate_left
                    · intro w'
                      go_simp
                      with_reducible rfl
                    rotate_left
                    · simp only [Act.put, List.setIfInBounds_toArray, List.set_cons_zero, List.set_cons_succ, i64_w, i32_w]
                      rfl
                    refine pure_ (i := 6) (N := some 16) (v := ?_) (a' := ?_) #[true, true, true, true, true, true, true, false, false, false, false, false, false, false, false, false, false, false, false, false, false, false, false, false] rfl rfl (any_of HT_.out (by kernel_rfl)) (fun _ _ _ h => h) (Or.inl ⟨by rfl, ?_⟩) ?_ ?_
                    rotate_left
                    · intro w'
                      go_simp
                      with_reducible rfl
                    rotate_left
                    · simp only [Act.put, List.setIfInBounds_toArray, List.set_cons_zero, List.set_cons_succ, i64_w, i32_w]
                      rfl
                    refine pure_ (i := 7) (N := some 17) (v := ?_) (a' := ?_) #[true, true, true, true, true, true, true, true, false, false, false, false, false, false, false, false, false, false, false, false, false, false, false, false] rfl rfl (any_of HT_.out (by kernel_rfl)) (fun _ _ _ h => h) (Or.inl ⟨by rfl, ?_⟩) ?_ ?_
                    rotate_left
                    · intro w'
                      go_simp
                      with_reducible rfl
                    rotate_left
                    · simp only [Act.put, List.setIfInBounds_toArray, List.set_cons_zero, List.set_cons_succ, i64_w, i32_w]
                      rfl
                    refine pure_ (i := 8) (N := some 18) (v := ?_) (a' := ?_) #[true, true, true, true, true, true, true, true, true, false, false, false, false, false, false, false, false, false, false, false, false, false, false, false] rfl rfl (any_of HT_.out (by kernel_rfl)) (fun _ _ _ h => h) (Or.inl ⟨by rfl, ?_⟩) ?_ ?_
                    rotate_left
                    · intro w'
                      go_simp
                      with_reducible rfl
                    rotate_left
                    · simp only [Act.put, List.setIfInBounds_toArray, List.set_cons_zero, List.set_cons_succ, i64_w, i32_w]
                      rfl
                    refine pure_ (i := 9) (N := some 19) (v := ?_) (a' := ?_) #[true, true, true, true, true, true, true, true, true, true, false, false, false, false, false, false, false, false, false, false, false, false, false, false] rfl rfl (any_of HT_.out (by kernel_rfl)) (fun _ _ _ h => h) (Or.inl ⟨by rfl, ?_⟩) ?_ ?_
                    rotate_left
                    · intro w'
                      go_simp
                      with_reducible rfl
                    rotate_left
                    · simp only [Act.put, List.setIfInBounds_toArray, List.set_cons_zero, List.set_cons_succ, i64_w, i32_w]
                      rfl
                    refine pure_ (i := 10) (N := some 20) (v := ?_) (a' := ?_) #[true, true, true, true, true, true, true, true, true, true, true, false, false, false, false, false, false, false, false, false, false, false, false, false] rfl rfl (any_of HT_.out (by kernel_rfl)) (fun _ _ _ h => h) (Or.inl ⟨by rfl, ?_⟩) ?_ ?_
                    rotate_left
                    · intro w'
                      go_simp
                      with_reducible rfl
                    rotate_left
                    · simp only [Act.put, List.setIfInBounds_toArray, List.set_cons_zero, List.set_cons_succ, i64_w, i32_w]
                      rfl
                    refine pure_ (i := 11) (N := some 21) (v := ?_) (a' := ?_) #[true, true, true, true, true, true, true, true, true, true, true, true, false, false, false, false, false, false, false, false, false, false, false, false] rfl rfl (any_of HT_.out (by kernel_rfl)) (fun _ _ _ h => h) (Or.inl ⟨by rfl, ?_⟩) ?_ ?_
                    rotate_left
                    · intro w'
                      go_simp
                      with_reducible rfl
                    rotate_left
                    · simp only [Act.put, List.setIfInBounds_toArray, List.set_cons_zero, List.set_cons_succ, i64_w, i32_w]
                      rfl
                    refine pure_ (i := 12) (N := some 22) (v := ?_) (a' := ?_) #[true, true, true, true, true, true, true, true, true, true, true, true, true, false, false, false, false, false, false, false, false, false, false, false] rfl rfl (any_of HT_.out (by kernel_rfl)) (fun _ _ _ h => h) (Or.inl ⟨by rfl, ?_⟩) ?_ ?_
                    rotate_left
                    · intro w'
                      go_simp
                      with_reducible rfl
                    rotate_left
                    · simp only [Act.put, List.setIfInBounds_toArray, List.set_cons_zero, List.set_cons_succ, i64_w, i32_w]
                      rfl
                    refine pure_ (i := 13) (N := some 23) (v := ?_) (a' := ?_) #[true, true, true, true, true, true, true, true, true, true, true, true, true, true, false, false, false, false, false, false, false, false, false, false] rfl rfl (any_of HT_.out (by kernel_rfl)) (fun _ _ _ h => h) (Or.inl ⟨by rfl, ?_⟩) ?_ ?_
                    rotate_left
                    · intro w'
                      go_simp
                      with_reducible rfl
                    rotate_left
                    · simp only [Act.put, List.setIfInBounds_toArray, List.set_cons_zero, List.set_cons_succ, i64_w, i32_w]
                      rfl
                    refine pure_ (i := 14) (N := some 24) (v := ?_) (a' := ?_) #[true, true, true, true, true, true, true, true, true, true, true, true, true, true, true, false, false, false, false, false, false, false, false, false] rfl rfl (any_of HT_.out (by kernel_rfl)) (fun _ _ _ h => h) (Or.inl ⟨by rfl, ?_⟩) ?_ ?_
                    rotate_left
                    · intro w'
                      go_simp
                      with_reducible rfl
                    rotate_left
                    · simp only [Act.put, List.setIfInBounds_toArray, List.set_cons_zero, List.set_cons_succ, i64_w, i32_w]
                      rfl
                    refine pure_ (i := 16) (N := some 26) (v := ?_) (a' := ?_) #[true, true, true, true, true, true, true, true, true, true, true, true, true, true, true, false, true, false, false, false, false, false, false, false] rfl rfl (any_of HT_.out (by kernel_rfl)) (fun _ _ _ h => h) (Or.inl ⟨by rfl, ?_⟩) ?_ ?_
                    rotate_left
                    · intro w'
                      go_simp
                      with_reducible rfl
                    rotate_left
                    · simp only [Act.put, List.setIfInBounds_toArray, List.set_cons_zero, List.set_cons_succ, i64_w, i32_w]
                      rfl
                    refine pure_ (i := 17) (N := some 27) (v := ?_) (a' := ?_) #[true, true, true, true, true, true, true, true, true, true, true, true, true, true, true, false, true, true, false, false, false, false, false, false] rfl rfl (any_of HT_.out (by kernel_rfl)) (fun _ _ _ h => h) (Or.inl ⟨by rfl, ?_⟩) ?_ ?_
                    rotate_left
                    · intro w'
                      go_simp
                      with_reducible rfl
                    rotate_left
                    · simp only [Act.put, List.setIfInBounds_toArray, List.set_cons_zero, List.set_cons_succ, i64_w, i32_w]
                      rfl
                    refine pure_ (i := 18) (N := some 28) (v := ?_) (a' := ?_) #[true, true, true, true, true, true, true, true, true, true, true, true, true, true, true, false, true, true, true, false, false, false, false, false] rfl rfl (any_of HT_.out (by kernel_rfl)) (fun _ _ _ h => h) (Or.inl ⟨by rfl, ?_⟩) ?_ ?_
                    rotate_left
                    · intro w'
                      go_simp
                      with_reducible rfl
                    rotate_left
                    · simp only [Act.put, List.setIfInBounds_toArray, List.set_cons_zero, List.set_cons_succ, i64_w, i32_w]
                      rfl
                    refine pure_ (i := 19) (N := some 29) (v := ?_) (a' := ?_) #[true, true, true, true, true, true, true, true, true, true, true, true, true, true, true, false, true, true, true, true, false, false, false, false] rfl rfl (any_of HT_.out (by kernel_rfl)) (fun _ _ _ h => h) (Or.inl ⟨by rfl, ?_⟩) ?_ ?_
                    rotate_left
                    · intro w'
                      go_simp
                      with_reducible rfl
                    rotate_left
                    · simp only [Act.put, List.setIfInBounds_toArray, List.set_cons_zero, List.set_cons_succ, i64_w, i32_w]
                      rfl
                    refine take_ (i := 15) (N := some 25) (v := ?_) (a' := ?_) #[true, true, true, true, true, true, true, true, true, true, true, true, true, true, true, true, true, true, true, true, false, false, false, false] rfl rfl (take_ofW HT_.out HW_.out (by kernel_rfl)) (fun _ _ _ h => h) (Or.inl ⟨by rfl, ?_⟩) hHeld ?_ ?_
                    rotate_left
                    · rintro w' ⟨s0, s1, s2, s3, s4, s5, s6, s7, s8, s9, s10, s11, s12, s13, s14, s15, s16, s17, s18, s19, s20, s21, s22, s23, s24, s25, s26, s27, s28, s29, s30, s31, s32, s33, s34, s35, s36, s37, s38, s39, s40, s41⟩
                      go_simp
                      with_reducible rfl
                    rotate_left
                    · simp only [Act.put, List.setIfInBounds_toArray, List.set_cons_zero, List.set_cons_succ, i64_w, i32_w]
                      rfl
                    refine take_ (i := 20) (N := some 30) (v := ?_) (a' := ?_) #[true, true, true, true, true, true, true, true, true, true, true, true, true, true, true, true, true, true, true, true, true, false, false, false] rfl rfl (take_ofW HT_.out HW_.out (by kernel_rfl)) (fun _ _ _ h => h) (Or.inl ⟨by rfl, ?_⟩) hHeld ?_ ?_
                    rotate_left
                    · rintro w' ⟨s0, s1, s2, s3, s4, s5, s6, s7, s8, s9, s10, s11, s12, s13, s14, s15, s16, s17, s18, s19, s20, s21, s22, s23, s24, s25, s26, s27, s28, s29, s30, s31, s32, s33, s34, s35, s36, s37, s38, s39, s40, s41⟩
                      go_simp
                      with_reducible rfl
                    rotate_left
                    · simp only [Act.put, List.setIfInBounds_toArray, List.set_cons_zero, List.set_cons_succ, i64_w, i32_w]
                      rfl
                    refine pure_ (i := 21) (N := some 31) (v := ?_) (a' := ?_) #[true, true, true, true, true, true, true, true, true, true, true, true, true, true, true, true, true, true, true, true, true, true, false, false] rfl rfl (any_of HT_.out (by kernel_rfl)) (fun _ _ _ h => h) (Or.inl ⟨by rfl, ?_⟩) ?_ ?_
                    rotate_left
                    · intro w'
                      go_simp
                      with_reducible rfl
                    rotate_left
                    · simp only [Act.put, List.setIfInBounds_toArray, List.set_cons_zero, List.set_cons_succ, i64_w, i32_w]
                      rfl
                    refine pure_ (i := 22) (N := some 32) (v := ?_) (a' := ?_) #[true, true, true, true, true, true, true, true, true, true, true, true, true, true, true, true, true, true, true, true, true, true, true, false] rfl rfl (any_of HT_.out (by kernel_rfl)) (fun _ _ _ h => h) (Or.inl ⟨by rfl, ?_⟩) ?_ ?_
                    rotate_left
                    · intro w'
                      go_simp
                      with_reducible rfl
                    rotate_left
                    · simp only [Act.put, List.setIfInBounds_toArray, List.set_cons_zero, List.set_cons_succ, i64_w, i32_w]
                      rfl
                    refine pure_ (i := 23) (N := some 33) (v := ?_) (a' := ?_) #[true, true, true, true, true, true, true, true, true, true, true, true, true, true, true, true, true, true, true, true, true, true, true, true] rfl rfl (any_of HT_.out (by kernel_rfl)) (fun _ _ _ h => h) (Or.inl ⟨by rfl, ?_⟩) ?_ ?_
                    rotate_left
                    · intro w'
                      go_simp
                      with_reducible rfl
                    rotate_left
                    · simp only [Act.put, List.setIfInBounds_toArray, List.set_cons_zero, List.set_cons_succ, i64_w, i32_w]
                      rfl
                    refine done_ (done_of HT_.out (by kernel_rfl)) ?_
                    try go_wp2
                    go_roundg k1
                    case measure => have := HK1.out; omega
                    case rel => exact ⟨(wrap64 (x3_1 + 1)), (by first | rfl | (simp; done) | (simp [*]; done)), H', ⟨by have := HK1.out; omega⟩, ⟨by repeat (first | (with_reducible first | exact HB.out | apply below_alloc | apply pw_below_drewN | apply below_drew1) | exact HB.out)⟩⟩
                · rw [if_neg c9] at H
                  exact absurd H (by simp)
              · rw [if_neg c8] at H
                exact absurd H (by simp)
            · rw [if_neg c6] at H
              have c6b0 : decide (0 < x3_1) = false := decide_eq_false c6
              clear c6
              have H' := Aside0.mk H
              clear H
              try go_wp2
              have n0_ := Aside0.mk (below_drew1 HB.out)
              clear HB
              have HB := n0_
              clear n0_
              have p590 : 0 ≤ (x3_1 : Int) := of_decide_eq_true (by first | (with_reducible assumption) | assumption)
              have q590 : x3_1 < (l0.length : Int) := of_decide_eq_true (by first | (with_reducible assumption) | assumption)
              obtain ⟨ad590, e590, hx590_0, hx590_1, hx590_2, hx590_3, hx590_4, hx590_5, hx590_6, hx590_7, hx590_8, hx590_9, hx590_10, hx590_11, hx590_12, hx590_13⟩ := at_T24 HR0.out x3_1 p590 q590
              have hw590_13 := hx590_13
              have hw590_12 := hx590_12
              have hw590_11 := hx590_11
              have hw590_10 := hx590_10
              have hw590_9 := hx590_9
              have hw590_8 := hx590_8
              have hw590_7 := hx590_7
              have hw590_6 := hx590_6
              have hw590_5 := hx590_5
              have hw590_4 := hx590_4
              have hw590_3 := hx590_3
              have hw590_2 := hx590_2
              have hw590_1 := hx590_1
              have hw590_0 := hx590_0
              cases e590
              replace hx590_0 := (HB.out.cell (World.block_lt_of_cell? w _ hx590_0)).trans hx590_0
              replace hx590_1 := (HB.out.cell (World.block_lt_of_cell? w _ hx590_1)).trans hx590_1
              replace hx590_2 := (HB.out.cell (World.block_lt_of_cell? w _ hx590_2)).trans hx590_2
              replace hx590_3 := (HB.out.cell (World.block_lt_of_cell? w _ hx590_3)).trans hx590_3
              replace hx590_4 := (HB.out.cell (World.block_lt_of_cell? w _ hx590_4)).trans hx590_4
              replace hx590_5 := (HB.out.cell (World.block_lt_of_cell? w _ hx590_5)).trans hx590_5
              replace hx590_6 := (HB.out.cell (World.block_lt_of_cell? w _ hx590_6)).trans hx590_6
              replace hx590_7 := (HB.out.cell (World.block_lt_of_cell? w _ hx590_7)).trans hx590_7
              replace hx590_8 := (HB.out.cell (World.block_lt_of_cell? w _ hx590_8)).trans hx590_8
              replace hx590_9 := (HB.out.cell (World.block_lt_of_cell? w _ hx590_9)).trans hx590_9
              replace hx590_10 := (HB.out.cell (World.block_lt_of_cell? w _ hx590_10)).trans hx590_10
              replace hx590_11 := (HB.out.cell (World.block_lt_of_cell? w _ hx590_11)).trans hx590_11
              replace hx590_12 := (HB.out.cell (World.block_lt_of_cell? w _ hx590_12)).trans hx590_12
              replace hx590_13 := (HB.out.cell (World.block_lt_of_cell? w _ hx590_13)).trans hx590_13
              replace p590 := eq_true p590
              replace q590 := eq_true q590
              refine start_ (n := 24) (S := fun w' => w'.cell? (ad590.add ((x3_1).toNat * 14)) = some (.int .i64 ((rd_T24 l0 x3_1).f0)) ∧ w'.cell? ⟨(ad590.add ((x3_1).toNat * 14)).block, (ad590.add ((x3_1).toNat * 14)).off + 1, none⟩ = some (.int .i64 ((rd_T24 l0 x3_1).f1)) ∧ w'.cell? ⟨(ad590.add ((x3_1).toNat * 14)).block, (ad590.add ((x3_1).toNat * 14)).off + 2, none⟩ = some (.int .i64 ((rd_T24 l0 x3_1).f2)) ∧ w'.cell? ⟨(ad590.add ((x3_1).toNat * 14)).block, (ad590.add ((x3_1).toNat * 14)).off + 3, none⟩ = some (.int .i64 ((rd_T24 l0 x3_1).f3)) ∧ w'.cell? ⟨(ad590.add ((x3_1).toNat * 14)).block, (ad590.add ((x3_1).toNat * 14)).off + 4, none⟩ = some (.bool ((rd_T24 l0 x3_1).f4)) ∧ w'.cell? ⟨(ad590.add ((x3_1).toNat * 14)).block, (ad590.add ((x3_1).toNat * 14)).off + 5, none⟩ = some (.int .i64 ((rd_T24 l0 x3_1).f5)) ∧ w'.cell? ⟨(ad590.add ((x3_1).toNat * 14)).block, (ad590.add ((x3_1).toNat * 14)).off + 6, none⟩ = some (.int .i64 ((rd_T24 l0 x3_1).f6)) ∧ w'.cell? ⟨(ad590.add ((x3_1).toNat * 14)).block, (ad590.add ((x3_1).toNat * 14)).off + 7, none⟩ = some (.int .i64 ((rd_T24 l0 x3_1).f7)) ∧ w'.cell? ⟨(ad590.add ((x3_1).toNat * 14)).block, (ad590.add ((x3_1).toNat * 14)).off + 8, none⟩ = some (.int .i64 ((rd_T24 l0 x3_1).f8)) ∧ w'.cell? ⟨(ad590.add ((x3_1).toNat * 14)).block, (ad590.add ((x3_1).toNat * 14)).off + 9, none⟩ = some (.int .i64 ((rd_T24 l0 x3_1).f9)) ∧ w'.cell? ⟨(ad590.add ((x3_1).toNat * 14)).block, (ad590.add ((x3_1).toNat * 14)).off + 10, none⟩ = some (.int .i64 ((rd_T24 l0 x3_1).f10)) ∧ w'.cell? ⟨(ad590.add ((x3_1).toNat * 14)).block, (ad590.add ((x3_1).toNat * 14)).off + 11, none⟩ = some (.int .i64 ((rd_T24 l0 x3_1).f11)) ∧ w'.cell? ⟨(ad590.add ((x3_1).toNat * 14)).block, (ad590.add ((x3_1).toNat * 14)).off + 12, none⟩ = some (.int .i64 ((rd_T24 l0 x3_1).f12)) ∧ w'.cell? ⟨(ad590.add ((x3_1).toNat * 14)).block, (ad590.add ((x3_1).toNat * 14)).off + 13, none⟩ = some (.int .i64 ((rd_T24 l0 x3_1).f13))) (ds := []) #[false, false, false, false, false, false, false, false, false, false, false, false, false, false, false, false, false, false, false, false, false, false, false, false] (by kernel_rfl) rfl rfl ⟨((HB.out.cell (World.block_lt_of_cell? w _ hw590_0)).trans hw590_0), ((HB.out.cell (World.block_lt_of_cell? w _ hw590_1)).trans hw590_1), ((HB.out.cell (World.block_lt_of_cell? w _ hw590_2)).trans hw590_2), ((HB.out.cell (World.block_lt_of_cell? w _ hw590_3)).trans hw590_3), ((HB.out.cell (World.block_lt_of_cell? w _ hw590_4)).trans hw590_4), ((HB.out.cell (World.block_lt_of_cell? w _ hw590_5)).trans hw590_5), ((HB.out.cell (World.block_lt_of_cell? w _ hw590_6)).trans hw590_6), ((HB.out.cell (World.block_lt_of_cell? w _ hw590_7)).trans hw590_7), ((HB.out.cell (World.block_lt_of_cell? w _ hw590_8)).trans hw590_8), ((HB.out.cell (World.block_lt_of_cell? w _ hw590_9)).trans hw590_9), ((HB.out.cell (World.block_lt_of_cell? w _ hw590_10)).trans hw590_10), ((HB.out.cell (World.block_lt_of_cell? w _ hw590_11)).trans hw590_11), ((HB.out.cell (World.block_lt_of_cell? w _ hw590_12)).trans hw590_12), ((HB.out.cell (World.block_lt_of_cell? w _ hw590_13)).trans hw590_13)⟩ (fun hHeld => ?_); refine with_tabW spec_TasksOk.tab4 spec_TasksOk.bits4 (fun HT_ HW_ => ?_)
              generalize wr.drew = w15 at HB hx590_0 hx590_1 hx590_10 hx590_11 hx590_12 hx590_13 hx590_2 hx590_3 hx590_4 hx590_5 hx590_6 hx590_7 hx590_8 hx590_9 hHeld ⊢
              refine pure_ (i := 0) (N := some 10) (v := ?_) (a' := ?_) #[true, false, false, false, false, false, false, false, false, false, false, false, false, false, false, false, false, false, false, false, false, false, false, false] rfl rfl (any_of HT_.out (by kernel_rfl)) (fun _ _ _ h => h) (Or.inl ⟨by rfl, ?_⟩) ?_ ?_
              rotate_left
              · intro w'
                go_simp
                with_reducible rfl
              rotate_left
              · simp only [Act.put, List.setIfInBounds_toArray, List.set_cons_zero, List.set_cons_succ, i64_w, i32_w]
                rfl
              refine pure_ (i := 1) (N := some 11) (v := ?_) (a' := ?_) #[true, true, false, false, false, false, false, false, false, false, false, false, false, false, false, false, false, false, false, false, false, false, false, false] rfl rfl (any_of HT_.out (by kernel_rfl)) (fun _ _ _ h => h) (Or.inl ⟨by rfl, ?_⟩) ?_ ?_
              rotate_left
              · intro w'
                go_simp
                with_reducible rfl
              rotate_left
              · simp only [Act.put, List.setIfInBounds_toArray, List.set_cons_zero, List.set_cons_succ, i64_w, i32_w]
                rfl
              refine pure_ (i := 2) (N := some 12) (v := ?_) (a' := ?_) #[true, true, true, false, false, false, false, false, false, false, false, false, false, false, false, false, false, false, false, false, false, false, false, false] rfl rfl (any_of HT_.out (by kernel_rfl)) (fun _ _ _ h => h) (Or.inl ⟨by rfl, ?_⟩) ?_ ?_
              rotate_left
              · intro w'
                go_simp
                with_reducible rfl
              rotate_left
              · simp only [Act.put, List.setIfInBounds_toArray, List.set_cons_zero, List.set_cons_succ, i64_w, i32_w]
                rfl
              refine take_ (i := 3) (N := some 13) (v := ?_) (a' := ?_) #[true, true, true, true, false, false, false, false, false, false, false, false, false, false, false, false, false, false, false, false, false, false, false, false] rfl rfl (take_ofW HT_.out HW_.out (by kernel_rfl)) (fun _ _ _ h => h) (Or.inl ⟨by rfl, ?_⟩) hHeld ?_ ?_
              rotate_left
              · rintro w' ⟨s0, s1, s2, s3, s4, s5, s6, s7, s8, s9, s10, s11, s12, s13⟩
                go_simp
                with_reducible rfl
              rotate_left
              · simp only [Act.put, List.setIfInBounds_toArray, List.set_cons_zero, List.set_cons_succ, i64_w, i32_w]
                rfl
              refine one_ (i := 4) (N := some 14) #[true, true, true, true, true, false, false, false, false, false, false, false, false, false, false, false, false, false, false, false, false, false, false, false] rfl rfl (one_of HT_.out (by kernel_rfl)) (by decide) (fun K hK => ?_)
              refine goes_ Try.func49 (by kernel_rfl) rfl #[.agg #[.int .i64 ((rd_T24 l0 x3_1).f0), .int .i64 ((rd_T24 l0 x3_1).f1), .int .i64 ((rd_T24 l0 x3_1).f2), .int .i64 ((rd_T24 l0 x3_1).f3), .bool ((rd_T24 l0 x3_1).f4), .int .i64 ((rd_T24 l0 x3_1).f5), .int .i64 ((rd_T24 l0 x3_1).f6), .int .i64 ((rd_T24 l0 x3_1).f7), .int .i64 ((rd_T24 l0 x3_1).f8), .int .i64 ((rd_T24 l0 x3_1).f9), .int .i64 ((rd_T24 l0 x3_1).f10), .int .i64 ((rd_T24 l0 x3_1).f11), .int .i64 ((rd_T24 l0 x3_1).f12), .int .i64 ((rd_T24 l0 x3_1).f13)]] (by rfl) rfl rfl (by (try simp only [List.map_toArray, List.map_cons, List.map_nil]); first | done | rfl | (simp only [List.length_drop, List.length_take]; rfl)) ?_
              with_reducible refine (spec_TaskOk.calls ((rd_T24 l0 x3_1).f0) ((rd_T24 l0 x3_1).f1) ((rd_T24 l0 x3_1).f2) ((rd_T24 l0 x3_1).f3) ((rd_T24 l0 x3_1).f4) ((rd_T24 l0 x3_1).f5) ((rd_T24 l0 x3_1).f6) ((rd_T24 l0 x3_1).f7) ((rd_T24 l0 x3_1).f8) ((rd_T24 l0 x3_1).f9) ((rd_T24 l0 x3_1).f10) ((rd_T24 l0 x3_1).f11) ((rd_T24 l0 x3_1).f12) ((rd_T24 l0 x3_1).f13) true _ A4.out).mono ?_
              rintro e w16 ⟨rfl, hb⟩
              refine ⟨_, rfl, ?_⟩
              have n0_ := Aside0.mk (below_step (by repeat (first | (with_reducible first | exact HB.out | apply below_alloc | apply pw_below_drewN | apply below_drew1) | exact HB.out)) hb)
              clear HB
              have HB := n0_
              clear n0_
              (try clear hb)
              (try clear hb2)
              (try clear hk)
              (try clear hi)
              refine hK.out _ _ ⟨((HB.out.cell (World.block_lt_of_cell? w _ hw590_0)).trans hw590_0), ((HB.out.cell (World.block_lt_of_cell? w _ hw590_1)).trans hw590_1), ((HB.out.cell (World.block_lt_of_cell? w _ hw590_2)).trans hw590_2), ((HB.out.cell (World.block_lt_of_cell? w _ hw590_3)).trans hw590_3), ((HB.out.cell (World.block_lt_of_cell? w _ hw590_4)).trans hw590_4), ((HB.out.cell (World.block_lt_of_cell? w _ hw590_5)).trans hw590_5), ((HB.out.cell (World.block_lt_of_cell? w _ hw590_6)).trans hw590_6), ((HB.out.cell (World.block_lt_of_cell? w _ hw590_7)).trans hw590_7), ((HB.out.cell (World.block_lt_of_cell? w _ hw590_8)).trans hw590_8), ((HB.out.cell (World.block_lt_of_cell? w _ hw590_9)).trans hw590_9), ((HB.out.cell (World.block_lt_of_cell? w _ hw590_10)).trans hw590_10), ((HB.out.cell (World.block_lt_of_cell? w _ hw590_11)).trans hw590_11), ((HB.out.cell (World.block_lt_of_cell? w _ hw590_12)).trans hw590_12), ((HB.out.cell (World.block_lt_of_cell? w _ hw590_13)).trans hw590_13)⟩ (fun hHeld => ?_)
              clear hK K
              refine norm_ (a' := ?_) ?_ ?_
              rotate_left
              · show Act.put _ (some 14) _ = _
                simp only [Act.put, List.setIfInBounds_toArray, List.set_cons_zero, List.set_cons_succ, i64_w, i32_w]
                rfl
              refine pure_ (i := 5) (N := some 15) (v := ?_) (a' := ?_) #[true, true, true, true, true, true, false, false, false, false, false, false, false, false, false, false, false, false, false, false, false, false, false, false] rfl rfl (any_of HT_.out (by kernel_rfl)) (fun _ _ _ h => h) (Or.inl ⟨by rfl, ?_⟩) ?_ ?_
              rotate_left
              · intro w'
                go_simp
                with_reducible rfl
              rotate_left
              · simp only [Act.put, List.setIfInBounds_toArray, List.set_cons_zero, List.set_cons_succ, i64_w, i32_w]
                rfl
              refine pure_ (i := 6) (N := some 16) (v := ?_) (a' := ?_) #[true, true, true, true, true, true, true, false, false, false, false, false, false, false, false, false, false, false, false, false, false, false, false, false] rfl rfl (any_of HT_.out (by kernel_rfl)) (fun _ _ _ h => h) (Or.inl ⟨by rfl, ?_⟩) ?_ ?_
              rotate_left
              · intro w'
                go_simp
                with_reducible rfl
              rotate_left
              · simp only [Act.put, List.setIfInBounds_toArray, List.set_cons_zero, List.set_cons_succ, i64_w, i32_w]
                rfl
              refine pure_ (i := 7) (N := some 17) (v := ?_) (a' := ?_) #[true, true, true, true, true, true, true, true, false, false, false, false, false, false, false, false, false, false, false, false, false, false, false, false] rfl rfl (any_of HT_.out (by kernel_rfl)) (fun _ _ _ h => h) (Or.inl ⟨by rfl, ?_⟩) ?_ ?_
              rotate_left
              · intro w'
                go_simp
                with_reducible rfl
              rotate_left
              · simp only [Act.put, List.setIfInBounds_toArray, List.set_cons_zero, List.set_cons_succ, i64_w, i32_w]
                rfl
              refine pure_ (i := 8) (N := some 18) (v := ?_) (a' := ?_) #[true, true, true, true, true, true, true, true, true, false, false, false, false, false, false, false, false, false, false, false, false, false, false, false] rfl rfl (any_of HT_.out (by kernel_rfl)) (fun _ _ _ h => h) (Or.inl ⟨by rfl, ?_⟩) ?_ ?_
              rotate_left
              · intro w'
                go_simp
                with_reducible rfl
              rotate_left
              · simp only [Act.put, List.setIfInBounds_toArray, List.set_cons_zero, List.set_cons_succ, i64_w, i32_w]
                rfl
              refine pure_ (i := 9) (N := some 19) (v := ?_) (a' := ?_) #[true, true, true, true, true, true, true, true, true, true, false, false, false, false, false, false, false, false, false, false, false, false, false, false] rfl rfl (any_of HT_.out (by kernel_rfl)) (fun _ _ _ h => h) (Or.inl ⟨by rfl, ?_⟩) ?_ ?_
              rotate_left
              · intro w'
                go_simp
                with_reducible rfl
              rotate_left
              · simp only [Act.put, List.setIfInBounds_toArray, List.set_cons_zero, List.set_cons_succ, i64_w, i32_w]
                rfl
              refine pure_ (i := 10) (N := some 20) (v := undef) (a' := ?_) #[true, true, true, true, true, true, true, true, true, true, true, false, false, false, false, false, false, false, false, false, false, false, false, false] rfl rfl (any_of HT_.out (by kernel_rfl)) (fun _ _ _ h => h) (Or.inr ⟨by rfl, rfl⟩) ?_ ?_
              rotate_left
              · simp only [Act.put, List.setIfInBounds_toArray, List.set_cons_zero, List.set_cons_succ, i64_w, i32_w]
                rfl
              refine pure_ (i := 11) (N := some 21) (v := undef) (a' := ?_) #[true, true, true, true, true, true, true, true, true, true, true, true, false, false, false, false, false, false, false, false, false, false, false, false] rfl rfl (any_of HT_.out (by kernel_rfl)) (fun _ _ _ h => h) (Or.inr ⟨by rfl, rfl⟩) ?_ ?_
              rotate_left
              · simp only [Act.put, List.setIfInBounds_toArray, List.set_cons_zero, List.set_cons_succ, i64_w, i32_w]
                rfl
              refine pure_ (i := 12) (N := some 22) (v := undef) (a' := ?_) #[true, true, true, true, true, true, true, true, true, true, true, true, true, false, false, false, false, false, false, false, false, false, false, false] rfl rfl (any_of HT_.out (by kernel_rfl)) (fun _ _ _ h => h) (Or.inr ⟨by rfl, rfl⟩) ?_ ?_
              rotate_left
              · simp only [Act.put, List.setIfInBounds_toArray, List.set_cons_zero, List.set_cons_succ, i64_w, i32_w]
                rfl
              refine pure_ (i := 13) (N := some 23) (v := undef) (a' := ?_) #[true, true, true, true, true, true, true, true, true, true, true, true, true, true, false, false, false, false, false, false, false, false, false, false] rfl rfl (any_of HT_.out (by kernel_rfl)) (fun _ _ _ h => h) (Or.inr ⟨by rfl, rfl⟩) ?_ ?_
              rotate_left
              · simp only [Act.put, List.setIfInBounds_toArray, List.set_cons_zero, List.set_cons_succ, i64_w, i32_w]
                rfl
              refine pure_ (i := 14) (N := some 24) (v := undef) (a' := ?_) #[true, true, true, true, true, true, true, true, true, true, true, true, true, true, true, false, false, false, false, false, false, false, false, false] rfl rfl (any_of HT_.out (by kernel_rfl)) (fun _ _ _ h => h) (Or.inr ⟨by rfl, rfl⟩) ?_ ?_
              rotate_left
              · simp only [Act.put, List.setIfInBounds_toArray, List.set_cons_zero, List.set_cons_succ, i64_w, i32_w]
                rfl
              refine pure_ (i := 15) (N := some 25) (v := undef) (a' := ?_) #[true, true, true, true, true, true, true, true, true, true, true, true, true, true, true, true, false, false, false, false, false, false, false, false] rfl rfl (any_of HT_.out (by kernel_rfl)) (fun _ _ _ h => h) (Or.inr ⟨by rfl, rfl⟩) ?_ ?_
              rotate_left
              · simp only [Act.put, List.setIfInBounds_toArray, List.set_cons_zero, List.set_cons_succ, i64_w, i32_w]
                rfl
              refine pure_ (i := 16) (N := some 26) (v := undef) (a' := ?_) #[true, true, true, true, true, true, true, true, true, true, true, true, true, true, true, true, true, false, false, false, false, false, false, false] rfl rfl (any_of HT_.out (by kernel_rfl)) (fun _ _ _ h => h) (Or.inr ⟨by rfl, rfl⟩) ?_ ?_
              rotate_left
              · simp only [Act.put, List.setIfInBounds_toArray, List.set_cons_zero, List.set_cons_succ, i64_w, i32_w]
                rfl
              refine pure_ (i := 17) (N := some 27) (v := undef) (a' := ?_) #[true, true, true, true, true, true, true, true, true, true, true, true, true, true, true, true, true, true, false, false, false, false, false, false] rfl rfl (any_of HT_.out (by kernel_rfl)) (fun _ _ _ h => h) (Or.inr ⟨by rfl, rfl⟩) ?_ ?_
              rotate_left
              · simp only [Act.put, List.setIfInBounds_toArray, List.set_cons_zero, List.set_cons_succ, i64_w, i32_w]
                rfl
              refine pure_ (i := 18) (N := some 28) (v := undef) (a' := ?_) #[true, true, true, true, true, true, true, true, true, true, true, true, true, true, true, true, true, true, true, false, false, false, false, false] rfl rfl (any_of HT_.out (by kernel_rfl)) (fun _ _ _ h => h) (Or.inr ⟨by rfl, rfl⟩) ?_ ?_
              rotate_left
              · simp only [Act.put, List.setIfInBounds_toArray, List.set_cons_zero, List.set_cons_succ, i64_w, i32_w]
                rfl
              refine pure_ (i := 19) (N := some 29) (v := undef) (a' := ?_) #[true, true, true, true, true, true, true, true, true, true, true, true, true, true, true, true, true, true, true, true, false, false, false, false] rfl rfl (any_of HT_.out (by kernel_rfl)) (fun _ _ _ h => h) (Or.inr ⟨by rfl, rfl⟩) ?_ ?_
              rotate_left
              · simp only [Act.put, List.setIfInBounds_toArray, List.set_cons_zero, List.set_cons_succ, i64_w, i32_w]
                rfl
              refine pure_ (i := 20) (N := some 30) (v := undef) (a' := ?_) #[true, true, true, true, true, true, true, true, true, true, true, true, true, true, true, true, true, true, true, true, true, false, false, false] rfl rfl (any_of HT_.out (by kernel_rfl)) (fun _ _ _ h => h) (Or.inr ⟨by rfl, rfl⟩) ?_ ?_
              rotate_left
              · simp only [Act.put, List.setIfInBounds_toArray, List.set_cons_zero, List.set_cons_succ, i64_w, i32_w]
                rfl
              refine pure_ (i := 21) (N := some 31) (v := undef) (a' := ?_) #[true, true, true, true, true, true, true, true, true, true, true, true, true, true, true, true, true, true, true, true, true, true, false, false] rfl rfl (any_of HT_.out (by kernel_rfl)) (fun _ _ _ h => h) (Or.inr ⟨by rfl, rfl⟩) ?_ ?_
              rotate_left
              · simp only [Act.put, List.setIfInBounds_toArray, List.set_cons_zero, List.set_cons_succ, i64_w, i32_w]
                rfl
              refine pure_ (i := 22) (N := some 32) (v := ?_) (a' := ?_) #[true, true, true, true, true, true, true, true, true, true, true, true, true, true, true, true, true, true, true, true, true, true, true, false] rfl rfl (any_of HT_.out (by kernel_rfl)) (fun _ _ _ h => h) (Or.inl ⟨by rfl, ?_⟩) ?_ ?_
              rotate_left
              · intro w'
                go_simp
                with_reducible rfl
              rotate_left
              · simp only [Act.put, List.setIfInBounds_toArray, List.set_cons_zero, List.set_cons_succ, i64_w, i32_w]
                rfl
              refine pure_ (i := 23) (N := some 33) (v := ?_) (a' := ?_) #[true, true, true, true, true, true, true, true, true, true, true, true, true, true, true, true, true, true, true, true, true, true, true, true] rfl rfl (any_of HT_.out (by kernel_rfl)) (fun _ _ _ h => h) (Or.inl ⟨by rfl, ?_⟩) ?_ ?_
              rotate_left
              · intro w'
                go_simp
                with_reducible rfl
              rotate_left
              · simp only [Act.put, List.setIfInBounds_toArray, List.set_cons_zero, List.set_cons_succ, i64_w, i32_w]
                rfl
              refine done_ (done_of HT_.out (by kernel_rfl)) ?_
              try go_wp2
              go_roundg k1
              case measure => have := HK1.out; omega
              case rel => exact ⟨(wrap64 (x3_1 + 1)), (by first | rfl | (simp; done) | (simp [*]; done)), H', ⟨by have := HK1.out; omega⟩, ⟨by repeat (first | (with_reducible first | exact HB.out | apply below_alloc | apply pw_below_drewN | apply below_drew1) | exact HB.out)⟩⟩
          · replace c5 := Bool.eq_false_iff.mpr c5
            subst c5
            have H1 : (some false) = some r := by rw [if_neg (show ¬ (false = true) by decide)] at H; exact H
            clear H
            have H := H1
            clear H1
            obtain rfl := Option.some.inj H
            try go_wp2
            have n0_ := Aside0.mk (below_drew1 HB.out)
            clear HB
            have HB := n0_
            clear n0_
            have p590 : 0 ≤ (x3_1 : Int) := of_decide_eq_true (by first | (with_reducible assumption) | assumption)
            have q590 : x3_1 < (l0.length : Int) := of_decide_eq_true (by first | (with_reducible assumption) | assumption)
            obtain ⟨ad590, e590, hx590_0, hx590_1, hx590_2, hx590_3, hx590_4, hx590_5, hx590_6, hx590_7, hx590_8, hx590_9, hx590_10, hx590_11, hx590_12, hx590_13⟩ := at_T24 HR0.out x3_1 p590 q590
            have hw590_13 := hx590_13
            have hw590_12 := hx590_12
            have hw590_11 := hx590_11
            have hw590_10 := hx590_10
            have hw590_9 := hx590_9
            have hw590_8 := hx590_8
            have hw590_7 := hx590_7
            have hw590_6 := hx590_6
            have hw590_5 := hx590_5
            have hw590_4 := hx590_4
            have hw590_3 := hx590_3
            have hw590_2 := hx590_2
            have hw590_1 := hx590_1
            have hw590_0 := hx590_0
            cases e590
            replace hx590_0 := (HB.out.cell (World.block_lt_of_cell? w _ hx590_0)).trans hx590_0
            replace hx590_1 := (HB.out.cell (World.block_lt_of_cell? w _ hx590_1)).trans hx590_1
            replace hx590_2 := (HB.out.cell (World.block_lt_of_cell? w _ hx590_2)).trans hx590_2
            replace hx590_3 := (HB.out.cell (World.block_lt_of_cell? w _ hx590_3)).trans hx590_3
            replace hx590_4 := (HB.out.cell (World.block_lt_of_cell? w _ hx590_4)).trans hx590_4
            replace hx590_5 := (HB.out.cell (World.block_lt_of_cell? w _ hx590_5)).trans hx590_5
            replace hx590_6 := (HB.out.cell (World.block_lt_of_cell? w _ hx590_6)).trans hx590_6
            replace hx590_7 := (HB.out.cell (World.block_lt_of_cell? w _ hx590_7)).trans hx590_7
            replace hx590_8 := (HB.out.cell (World.block_lt_of_cell? w _ hx590_8)).trans hx590_8
            replace hx590_9 := (HB.out.cell (World.block_lt_of_cell? w _ hx590_9)).trans hx590_9
            replace hx590_10 := (HB.out.cell (World.block_lt_of_cell? w _ hx590_10)).trans hx590_10
            replace hx590_11 := (HB.out.cell (World.block_lt_of_cell? w _ hx590_11)).trans hx590_11
            replace hx590_12 := (HB.out.cell (World.block_lt_of_cell? w _ hx590_12)).trans hx590_12
            replace hx590_13 := (HB.out.cell (World.block_lt_of_cell? w _ hx590_13)).trans hx590_13
            replace p590 := eq_true p590
            replace q590 := eq_true q590
            refine start_ (n := 24) (S := fun w' => w'.cell? (ad590.add ((x3_1).toNat * 14)) = some (.int .i64 ((rd_T24 l0 x3_1).f0)) ∧ w'.cell? ⟨(ad590.add ((x3_1).toNat * 14)).block, (ad590.add ((x3_1).toNat * 14)).off + 1, none⟩ = some (.int .i64 ((rd_T24 l0 x3_1).f1)) ∧ w'.cell? ⟨(ad590.add ((x3_1).toNat * 14)).block, (ad590.add ((x3_1).toNat * 14)).off + 2, none⟩ = some (.int .i64 ((rd_T24 l0 x3_1).f2)) ∧ w'.cell? ⟨(ad590.add ((x3_1).toNat * 14)).block, (ad590.add ((x3_1).toNat * 14)).off + 3, none⟩ = some (.int .i64 ((rd_T24 l0 x3_1).f3)) ∧ w'.cell? ⟨(ad590.add ((x3_1).toNat * 14)).block, (ad590.add ((x3_1).toNat * 14)).off + 4, none⟩ = some (.bool ((rd_T24 l0 x3_1).f4)) ∧ w'.cell? ⟨(ad590.add ((x3_1).toNat * 14)).block, (ad590.add ((x3_1).toNat * 14)).off + 5, none⟩ = some (.int .i64 ((rd_T24 l0 x3_1).f5)) ∧ w'.cell? ⟨(ad590.add ((x3_1).toNat * 14)).block, (ad590.add ((x3_1).toNat * 14)).off + 6, none⟩ = some (.int .i64 ((rd_T24 l0 x3_1).f6)) ∧ w'.cell? ⟨(ad590.add ((x3_1).toNat * 14)).block, (ad590.add ((x3_1).toNat * 14)).off + 7, none⟩ = some (.int .i64 ((rd_T24 l0 x3_1).f7)) ∧ w'.cell? ⟨(ad590.add ((x3_1).toNat * 14)).block, (ad590.add ((x3_1).toNat * 14)).off + 8, none⟩ = some (.int .i64 ((rd_T24 l0 x3_1).f8)) ∧ w'.cell? ⟨(ad590.add ((x3_1).toNat * 14)).block, (ad590.add ((x3_1).toNat * 14)).off + 9, none⟩ = some (.int .i64 ((rd_T24 l0 x3_1).f9)) ∧ w'.cell? ⟨(ad590.add ((x3_1).toNat * 14)).block, (ad590.add ((x3_1).toNat * 14)).off + 10, none⟩ = some (.int .i64 ((rd_T24 l0 x3_1).f10)) ∧ w'.cell? ⟨(ad590.add ((x3_1).toNat * 14)).block, (ad590.add ((x3_1).toNat * 14)).off + 11, none⟩ = some (.int .i64 ((rd_T24 l0 x3_1).f11)) ∧ w'.cell? ⟨(ad590.add ((x3_1).toNat * 14)).block, (ad590.add ((x3_1).toNat * 14)).off + 12, none⟩ = some (.int .i64 ((rd_T24 l0 x3_1).f12)) ∧ w'.cell? ⟨(ad590.add ((x3_1).toNat * 14)).block, (ad590.add ((x3_1).toNat * 14)).off + 13, none⟩ = some (.int .i64 ((rd_T24 l0 x3_1).f13))) (ds := []) #[false, false, false, false, false, false, false, false, false, false, false, false, false, false, false, false, false, false, false, false, false, false, false, false] (by kernel_rfl) rfl rfl ⟨((HB.out.cell (World.block_lt_of_cell? w _ hw590_0)).trans hw590_0), ((HB.out.cell (World.block_lt_of_cell? w _ hw590_1)).trans hw590_1), ((HB.out.cell (World.block_lt_of_cell? w _ hw590_2)).trans hw590_2), ((HB.out.cell (World.block_lt_of_cell? w _ hw590_3)).trans hw590_3), ((HB.out.cell (World.block_lt_of_cell? w _ hw590_4)).trans hw590_4), ((HB.out.cell (World.block_lt_of_cell? w _ hw590_5)).trans hw590_5), ((HB.out.cell (World.block_lt_of_cell? w _ hw590_6)).trans hw590_6), ((HB.out.cell (World.block_lt_of_cell? w _ hw590_7)).trans hw590_7), ((HB.out.cell (World.block_lt_of_cell? w _ hw590_8)).trans hw590_8), ((HB.out.cell (World.block_lt_of_cell? w _ hw590_9)).trans hw590_9), ((HB.out.cell (World.block_lt_of_cell? w _ hw590_10)).trans hw590_10), ((HB.out.cell (World.block_lt_of_cell? w _ hw590_11)).trans hw590_11), ((HB.out.cell (World.block_lt_of_cell? w _ hw590_12)).trans hw590_12), ((HB.out.cell (World.block_lt_of_cell? w _ hw590_13)).trans hw590_13)⟩ (fun hHeld => ?_); refine with_tabW spec_TasksOk.tab4 spec_TasksOk.bits4 (fun HT_ HW_ => ?_)
            generalize wr.drew = w17 at HB hx590_0 hx590_1 hx590_10 hx590_11 hx590_12 hx590_13 hx590_2 hx590_3 hx590_4 hx590_5 hx590_6 hx590_7 hx590_8 hx590_9 hHeld ⊢
            refine pure_ (i := 0) (N := some 10) (v := ?_) (a' := ?_) #[true, false, false, false, false, false, false, false, false, false, false, false, false, false, false, false, false, false, false, false, false, false, false, false] rfl rfl (any_of HT_.out (by kernel_rfl)) (fun _ _ _ h => h) (Or.inl ⟨by rfl, ?_⟩) ?_ ?_
            rotate_left
            · intro w'
              go_simp
              with_reducible rfl
            rotate_left
            · simp only [Act.put, List.setIfInBounds_toArray, List.set_cons_zero, List.set_cons_succ, i64_w, i32_w]
              rfl
            refine pure_ (i := 1) (N := some 11) (v := ?_) (a' := ?_) #[true, true, false, false, false, false, false, false, false, false, false, false, false, false, false, false, false, false, false, false, false, false, false, false] rfl rfl (any_of HT_.out (by kernel_rfl)) (fun _ _ _ h => h) (Or.inl ⟨by rfl, ?_⟩) ?_ ?_
            rotate_left
            · intro w'
              go_simp
              with_reducible rfl
            rotate_left
            · simp only [Act.put, List.setIfInBounds_toArray, List.set_cons_zero, List.set_cons_succ, i64_w, i32_w]
              rfl
            refine pure_ (i := 2) (N := some 12) (v := ?_) (a' := ?_) #[true, true, true, false, false, false, false, false, false, false, false, false, false, false, false, false, false, false, false, false, false, false, false, false] rfl rfl (any_of HT_.out (by kernel_rfl)) (fun _ _ _ h => h) (Or.inl ⟨by rfl, ?_⟩) ?_ ?_
            rotate_left
            · intro w'
              go_simp
              with_reducible rfl
            rotate_left
            · simp only [Act.put, List.setIfInBounds_toArray, List.set_cons_zero, List.set_cons_succ, i64_w, i32_w]
              rfl
            refine take_ (i := 3) (N := some 13) (v := ?_) (a' := ?_) #[true, true, true, true, false, false, false, false, false, false, false, false, false, false, false, false, false, false, false, false, false, false, false, false] rfl rfl (take_ofW HT_.out HW_.out (by kernel_rfl)) (fun _ _ _ h => h) (Or.inl ⟨by rfl, ?_⟩) hHeld ?_ ?_
            rotate_left
            · rintro w' ⟨s0, s1, s2, s3, s4, s5, s6, s7, s8, s9, s10, s11, s12, s13⟩
              go_simp
              with_reducible rfl
            rotate_left
            · simp only [Act.put, List.setIfInBounds_toArray, List.set_cons_zero, List.set_cons_succ, i64_w, i32_w]
              rfl
            refine one_ (i := 4) (N := some 14) #[true, true, true, true, true, false, false, false, false, false, false, false, false, false, false, false, false, false, false, false, false, false, false, false] rfl rfl (one_of HT_.out (by kernel_rfl)) (by decide) (fun K hK => ?_)
            refine goes_ Try.func49 (by kernel_rfl) rfl #[.agg #[.int .i64 ((rd_T24 l0 x3_1).f0), .int .i64 ((rd_T24 l0 x3_1).f1), .int .i64 ((rd_T24 l0 x3_1).f2), .int .i64 ((rd_T24 l0 x3_1).f3), .bool ((rd_T24 l0 x3_1).f4), .int .i64 ((rd_T24 l0 x3_1).f5), .int .i64 ((rd_T24 l0 x3_1).f6), .int .i64 ((rd_T24 l0 x3_1).f7), .int .i64 ((rd_T24 l0 x3_1).f8), .int .i64 ((rd_T24 l0 x3_1).f9), .int .i64 ((rd_T24 l0 x3_1).f10), .int .i64 ((rd_T24 l0 x3_1).f11), .int .i64 ((rd_T24 l0 x3_1).f12), .int .i64 ((rd_T24 l0 x3_1).f13)]] (by rfl) rfl rfl (by (try simp only [List.map_toArray, List.map_cons, List.map_nil]); first | done | rfl | (simp only [List.length_drop, List.length_take]; rfl)) ?_
            with_reducible refine (spec_TaskOk.calls ((rd_T24 l0 x3_1).f0) ((rd_T24 l0 x3_1).f1) ((rd_T24 l0 x3_1).f2) ((rd_T24 l0 x3_1).f3) ((rd_T24 l0 x3_1).f4) ((rd_T24 l0 x3_1).f5) ((rd_T24 l0 x3_1).f6) ((rd_T24 l0 x3_1).f7) ((rd_T24 l0 x3_1).f8) ((rd_T24 l0 x3_1).f9) ((rd_T24 l0 x3_1).f10) ((rd_T24 l0 x3_1).f11) ((rd_T24 l0 x3_1).f12) ((rd_T24 l0 x3_1).f13) false _ A4.out).mono ?_
            rintro e w18 ⟨rfl, hb⟩
            refine ⟨_, rfl, ?_⟩
            have n0_ := Aside0.mk (below_step (by repeat (first | (with_reducible first | exact HB.out | apply below_alloc | apply pw_below_drewN | apply below_drew1) | exact HB.out)) hb)
            clear HB
            have HB := n0_
            clear n0_
            (try clear hb)
            (try clear hb2)
            (try clear hk)
            (try clear hi)
            refine hK.out _ _ ⟨((HB.out.cell (World.block_lt_of_cell? w _ hw590_0)).trans hw590_0), ((HB.out.cell (World.block_lt_of_cell? w _ hw590_1)).trans hw590_1), ((HB.out.cell (World.block_lt_of_cell? w _ hw590_2)).trans hw590_2), ((HB.out.cell (World.block_lt_of_cell? w _ hw590_3)).trans hw590_3), ((HB.out.cell (World.block_lt_of_cell? w _ hw590_4)).trans hw590_4), ((HB.out.cell (World.block_lt_of_cell? w _ hw590_5)).trans hw590_5), ((HB.out.cell (World.block_lt_of_cell? w _ hw590_6)).trans hw590_6), ((HB.out.cell (World.block_lt_of_cell? w _ hw590_7)).trans hw590_7), ((HB.out.cell (World.block_lt_of_cell? w _ hw590_8)).trans hw590_8), ((HB.out.cell (World.block_lt_of_cell? w _ hw590_9)).trans hw590_9), ((HB.out.cell (World.block_lt_of_cell? w _ hw590_10)).trans hw590_10), ((HB.out.cell (World.block_lt_of_cell? w _ hw590_11)).trans hw590_11), ((HB.out.cell (World.block_lt_of_cell? w _ hw590_12)).trans hw590_12), ((HB.out.cell (World.block_lt_of_cell? w _ hw590_13)).trans hw590_13)⟩ (fun hHeld => ?_)
            clear hK K
            refine norm_ (a' := ?_) ?_ ?_
            rotate_left
            · show Act.put _ (some 14) _ = _
              simp only [Act.put, List.setIfInBounds_toArray, List.set_cons_zero, List.set_cons_succ, i64_w, i32_w]
              rfl
            refine pure_ (i := 5) (N := some 15) (v := ?_) (a' := ?_) #[true, true, true, true, true, true, false, false, false, false, false, false, false, false, false, false, false, false, false, false, false, false, false, false] rfl rfl (any_of HT_.out (by kernel_rfl)) (fun _ _ _ h => h) (Or.inl ⟨by rfl, ?_⟩) ?_ ?_
            rotate_left
            · intro w'
              go_simp
              with_reducible rfl
            rotate_left
            · simp only [Act.put, List.setIfInBounds_toArray, List.set_cons_zero, List.set_cons_succ, i64_w, i32_w]
              rfl
            refine pure_ (i := 6) (N := some 16) (v := ?_) (a' := ?_) #[true, true, true, true, true, true, true, false, false, false, false, false, false, false, false, false, false, false, false, false, false, false, false, false] rfl rfl (any_of HT_.out (by kernel_rfl)) (fun _ _ _ h => h) (Or.inl ⟨by rfl, ?_⟩) ?_ ?_
            rotate_left
            · intro w'
              go_simp
              with_reducible rfl
            rotate_left
            · simp only [Act.put, List.setIfInBounds_toArray, List.set_cons_zero, List.set_cons_succ, i64_w, i32_w]
              rfl
            refine pure_ (i := 7) (N := some 17) (v := undef) (a' := ?_) #[true, true, true, true, true, true, true, true, false, false, false, false, false, false, false, false, false, false, false, false, false, false, false, false] rfl rfl (any_of HT_.out (by kernel_rfl)) (fun _ _ _ h => h) (Or.inr ⟨by rfl, rfl⟩) ?_ ?_
            rotate_left
            · simp only [Act.put, List.setIfInBounds_toArray, List.set_cons_zero, List.set_cons_succ, i64_w, i32_w]
              rfl
            refine pure_ (i := 8) (N := some 18) (v := undef) (a' := ?_) #[true, true, true, true, true, true, true, true, true, false, false, false, false, false, false, false, false, false, false, false, false, false, false, false] rfl rfl (any_of HT_.out (by kernel_rfl)) (fun _ _ _ h => h) (Or.inr ⟨by rfl, rfl⟩) ?_ ?_
            rotate_left
            · simp only [Act.put, List.setIfInBounds_toArray, List.set_cons_zero, List.set_cons_succ, i64_w, i32_w]
              rfl
            refine pure_ (i := 9) (N := some 19) (v := undef) (a' := ?_) #[true, true, true, true, true, true, true, true, true, true, false, false, false, false, false, false, false, false, false, false, false, false, false, false] rfl rfl (any_of HT_.out (by kernel_rfl)) (fun _ _ _ h => h) (Or.inr ⟨by rfl, rfl⟩) ?_ ?_
            rotate_left
            · simp only [Act.put, List.setIfInBounds_toArray, List.set_cons_zero, List.set_cons_succ, i64_w, i32_w]
              rfl
            refine pure_ (i := 10) (N := some 20) (v := undef) (a' := ?_) #[true, true, true, true, true, true, true, true, true, true, true, false, false, false, false, false, false, false, false, false, false, false, false, false] rfl rfl (any_of HT_.out (by kernel_rfl)) (fun _ _ _ h => h) (Or.inr ⟨by rfl, rfl⟩) ?_ ?_
            rotate_left
            · simp only [Act.put, List.setIfInBounds_toArray, List.set_cons_zero, List.set_cons_succ, i64_w, i32_w]
              rfl
            refine pure_ (i := 11) (N := some 21) (v := undef) (a' := ?_) #[true, true, true, true, true, true, true, true, true, true, true, true, false, false, false, false, false, false, false, false, false, false, false, false] rfl rfl (any_of HT_.out (by kernel_rfl)) (fun _ _ _ h => h) (Or.inr ⟨by rfl, rfl⟩) ?_ ?_
            rotate_left
            · simp only [Act.put, List.setIfInBounds_toArray, List.set_cons_zero, List.set_cons_succ, i64_w, i32_w]
              rfl
            refine pure_ (i := 12) (N := some 22) (v := undef) (a' := ?_) #[true, true, true, true, true, true, true, true, true, true, true, true, true, false, false, false, false, false, false, false, false, false, false, false] rfl rfl (any_of HT_.out (by kernel_rfl)) (fun _ _ _ h => h) (Or.inr ⟨by rfl, rfl⟩) ?_ ?_
            rotate_left
            · simp only [Act.put, List.setIfInBounds_toArray, List.set_cons_zero, List.set_cons_succ, i64_w, i32_w]
              rfl
            refine pure_ (i := 13) (N := some 23) (v := undef) (a' := ?_) #[true, true, true, true, true, true, true, true, true, true, true, true, true, true, false, false, false, false, false, false, false, false, false, false] rfl rfl (any_of HT_.out (by kernel_rfl)) (fun _ _ _ h => h) (Or.inr ⟨by rfl, rfl⟩) ?_ ?_
            rotate_left
            · simp only [Act.put, List.setIfInBounds_toArray, List.set_cons_zero, List.set_cons_succ, i64_w, i32_w]
              rfl
            refine pure_ (i := 14) (N := some 24) (v := undef) (a' := ?_) #[true, true, true, true, true, true, true, true, true, true, true, true, true, true, true, false, false, false, false, false, false, false, false, false] rfl rfl (any_of HT_.out (by kernel_rfl)) (fun _ _ _ h => h) (Or.inr ⟨by rfl, rfl⟩) ?_ ?_
            rotate_left
            · simp only [Act.put, List.setIfInBounds_toArray, List.set_cons_zero, List.set_cons_succ, i64_w, i32_w]
              rfl
            refine pure_ (i := 15) (N := some 25) (v := undef) (a' := ?_) #[true, true, true, true, true, true, true, true, true, true, true, true, true, true, true, true, false, false, false, false, false, false, false, false] rfl rfl (any_of HT_.out (by kernel_rfl)) (fun _ _ _ h => h) (Or.inr ⟨by rfl, rfl⟩) ?_ ?_
            rotate_left
            · simp only [Act.put, List.setIfInBounds_toArray, List.set_cons_zero, List.set_cons_succ, i64_w, i32_w]
              rfl
            refine pure_ (i := 16) (N := some 26) (v := undef) (a' := ?_) #[true, true, true, true, true, true, true, true, true, true, true, true, true, true, true, true, true, false, false, false, false, false, false, false] rfl rfl (any_of HT_.out (by kernel_rfl)) (fun _ _ _ h => h) (Or.inr ⟨by rfl, rfl⟩) ?_ ?_
            rotate_left
            · simp only [Act.put, List.setIfInBounds_toArray, List.set_cons_zero, List.set_cons_succ, i64_w, i32_w]
              rfl
            refine pure_ (i := 17) (N := some 27) (v := undef) (a' := ?_) #[true, true, true, true, true, true, true, true, true, true, true, true, true, true, true, true, true, true, false, false, false, false, false, false] rfl rfl (any_of HT_.out (by kernel_rfl)) (fun _ _ _ h => h) (Or.inr ⟨by rfl, rfl⟩) ?_ ?_
            rotate_left
            · simp only [Act.put, List.setIfInBounds_toArray, List.set_cons_zero, List.set_cons_succ, i64_w, i32_w]
              rfl
            refine pure_ (i := 18) (N := some 28) (v := undef) (a' := ?_) #[true, true, true, true, true, true, true, true, true, true, true, true, true, true, true, true, true, true, true, false, false, false, false, false] rfl rfl (any_of HT_.out (by kernel_rfl)) (fun _ _ _ h => h) (Or.inr ⟨by rfl, rfl⟩) ?_ ?_
            rotate_left
            · simp only [Act.put, List.setIfInBounds_toArray, List.set_cons_zero, List.set_cons_succ, i64_w, i32_w]
              rfl
            refine pure_ (i := 19) (N := some 29) (v := undef) (a' := ?_) #[true, true, true, true, true, true, true, true, true, true, true, true, true, true, true, true, true, true, true, true, false, false, false, false] rfl rfl (any_of HT_.out (by kernel_rfl)) (fun _ _ _ h => h) (Or.inr ⟨by rfl, rfl⟩) ?_ ?_
            rotate_left
            · simp only [Act.put, List.setIfInBounds_toArray, List.set_cons_zero, List.set_cons_succ, i64_w, i32_w]
              rfl
            refine pure_ (i := 20) (N := some 30) (v := undef) (a' := ?_) #[true, true, true, true, true, true, true, true, true, true, true, true, true, true, true, true, true, true, true, true, true, false, false, false] rfl rfl (any_of HT_.out (by kernel_rfl)) (fun _ _ _ h => h) (Or.inr ⟨by rfl, rfl⟩) ?_ ?_
            rotate_left
            · simp only [Act.put, List.setIfInBounds_toArray, List.set_cons_zero, List.set_cons_succ, i64_w, i32_w]
              rfl
            refine pure_ (i := 21) (N := some 31) (v := undef) (a' := ?_) #[true, true, true, true, true, true, true, true, true, true, true, true, true, true, true, true, true, true, true, true, true, true, false, false] rfl rfl (any_of HT_.out (by kernel_rfl)) (fun _ _ _ h => h) (Or.inr ⟨by rfl, rfl⟩) ?_ ?_
            rotate_left
            · simp only [Act.put, List.setIfInBounds_toArray, List.set_cons_zero, List.set_cons_succ, i64_w, i32_w]
              rfl
            refine pure_ (i := 22) (N := some 32) (v := undef) (a' := ?_) #[true, true, true, true, true, true, true, true, true, true, true, true, true, true, true, true, true, true, true, true, true, true, true, false] rfl rfl (any_of HT_.out (by kernel_rfl)) (fun _ _ _ h => h) (Or.inr ⟨by rfl, rfl⟩) ?_ ?_
            rotate_left
            · simp only [Act.put, List.setIfInBounds_toArray, List.set_cons_zero, List.set_cons_succ, i64_w, i32_w]
              rfl
            refine pure_ (i := 23) (N := some 33) (v := ?_) (a' := ?_) #[true, true, true, true, true, true, true, true, true, true, true, true, true, true, true, true, true, true, true, true, true, true, true, true] rfl rfl (any_of HT_.out (by kernel_rfl)) (fun _ _ _ h => h) (Or.inl ⟨by rfl, ?_⟩) ?_ ?_
            rotate_left
            · intro w'
              go_simp
              with_reducible rfl
            rotate_left
            · simp only [Act.put, List.setIfInBounds_toArray, List.set_cons_zero, List.set_cons_succ, i64_w, i32_w]
              rfl
            refine done_ (done_of HT_.out (by kernel_rfl)) ?_
            try go_wp2
            go_ret
            exact ⟨by first | rfl | (simp [errW_none, errW_some] <;> rfl) | (simp [*, errW_none, errW_some] <;> rfl), by repeat (first | (with_reducible first | exact HB.out | apply below_alloc | apply pw_below_drewN | apply below_drew1) | exact HB.out)⟩
        · rw [if_neg c3] at H
          exact absurd H (by simp)
      · rw [if_neg c2] at H
        have c2b0 : decide (x3_1 < (l0.length : Int)) = false := decide_eq_false c2
        clear c2
        obtain rfl := Option.some.inj H
        go_wp2
        go_ret
        exact ⟨by first | rfl | (simp [errW_none, errW_some] <;> rfl) | (simp [*, errW_none, errW_some] <;> rfl), by repeat (first | (with_reducible first | exact HB.out | apply below_alloc | apply pw_below_drewN | apply below_drew1) | exact HB.out)⟩

end Go.Proofs.Ytnokdjkkgcpbdab.Print
