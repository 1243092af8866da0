/- Go functions as plain Lean functions, and that the Go code answers just as these, wherever they answer. Conditions: those of each theorem. Written by a program of this session (wip/patch.py). -/
import Derived.Test.YthabcadkaocciaaPrint0
import Derived.Test.YthabcadkaocciaaPrintImplLocksOk
import Derived.Test.YthabcadkaocciaaPrintLawsEqLockS
import Derived.Test.YthabcadkaocciaaPrintLawsToIntS
import Derived.Test.YthabcadkaocciaaPrintSlicesIndexIntInt
import Derived.Test.YthabcadkaocciaaPrintSpecL7Copy
import Derived.Test.YthabcadkaocciaaPrintSpecL7Less
namespace Go.Proofs.Ythabcadkaocciaa.Print
open Go.RowKit Go.Proofs.Ythabcadkaocciaa.Base Go.Proofs.YthabcadkaocciaaW.PrintWords Go.Proofs.YthabcadkaocciaaW.PrintLast Go.Proofs.YthabcadkaocciaaW.PrintMore
attribute [local go_sem] max2_int min2_int max_two min_two max_three min_three max_four min_four   -- for this text's walks alone
set_option linter.unusedVariables false
set_option linter.unusedSimpArgs false

/-! ### impl_LockFree: function 19 -/
mutual
def impl_LockFree.j0 : Nat → List (S45) → Int → Int → List (S45) → Bool → Option ((List (S45)) × Bool)
  | 0, _, _, _, _, _ => none
  | k + 1, x0, x1, x3, x10, x35 => if x35 = true then (some (x10, false)) else (if 0 ≤ x1 then (if x1 < (x0.length : Int) then ((slices_Index_int_int.f k ((rd_T45 x0 x1).f1) x3).bind fun t108 => (if t108 < 0 then (if x3 = 0 then (impl_LockFree.j1 k x1 x3 x10 t108 (decide ((((rd_T45 x0 x1).f1).length : Int) > 0))) else (impl_LockFree.j1 k x1 x3 x10 t108 true)) else (impl_LockFree.j1 k x1 x3 x10 t108 false))) else (none)) else (none))
def impl_LockFree.j1 : Nat → Int → Int → List (S45) → Int → Bool → Option ((List (S45)) × Bool)
  | 0, _, _, _, _, _ => none
  | k + 1, x1, x3, x10, x11, x58 => if x58 = true then (some (x10, false)) else (if 0 ≤ x1 then (if x1 < (x10.length : Int) then ((some (x10.set (x1 : Int).toNat (⟨x3, (rd_T45 x10 x1).f1⟩ : S45) : List (S45))).bind fun y110 => (if x11 ≥ 0 then (if 0 ≤ x11 then (if x11 < (((rd_T45 y110 x1).f1).length : Int) then (if ((rd_T45 y110 x1).f1).length < 17592186044416 then (some ((y110.set (x1 : Int).toNat (⟨(rd_T45 y110 x1).f0, (((rd_T45 y110 x1).f1).eraseIdx (x11 : Int).toNat)⟩ : S45)), true)) else (none)) else (none)) else (none)) else (some (y110, true)))) else (none)) else (none))
end
def impl_LockFree.f (k : Nat) (l0 : List (S45)) (a1 : Int) (a2 : Int) (a3 : Int) : Option ((List (S45)) × Bool) := (impl_LocksOk.f k l0).bind fun t101 => (if t101 = true then ((impl_cloneLocks.f k l0).bind fun t102 => ((impl_in.f a1 0 (wrap64 ((l0.length : Int) - 1))).bind fun t105 => (if t105 = true then (if a2 = 0 then (impl_LockFree.j0 k l0 a1 a3 t102 true) else (if 0 ≤ a1 then (if a1 < (l0.length : Int) then (impl_LockFree.j0 k l0 a1 a3 t102 (((rd_T45 l0 a1).f0) != a2)) else (none)) else (none))) else (impl_LockFree.j0 k l0 a1 a3 t102 true)))) else (some (([] : List (S45)), false)))
theorem impl_LockFree.mono_l : ∀ k, (∀ y0 y1 y2 y3 y4, LeO (impl_LockFree.j0 k y0 y1 y2 y3 y4) (impl_LockFree.j0 (k + 1) y0 y1 y2 y3 y4)) ∧ (∀ y0 y1 y2 y3 y4, LeO (impl_LockFree.j1 k y0 y1 y2 y3 y4) (impl_LockFree.j1 (k + 1) y0 y1 y2 y3 y4))
  | 0 => ⟨fun _ _ _ _ _ r h => by simp [impl_LockFree.j0] at h, fun _ _ _ _ _ r h => by simp [impl_LockFree.j1] at h⟩
  | k + 1 => by
    obtain ⟨ih0, ih1⟩ := impl_LockFree.mono_l k
    refine ⟨?_, ?_⟩
    · intro y0 y1 y2 y3 y4
      unfold impl_LockFree.j0
      repeat' first
      | (with_reducible exact ih0 _ _ _ _ _)
      | (with_reducible exact ih1 _ _ _ _ _)
      | (with_reducible exact impl_LocksOk.mono _ _)
      | (with_reducible exact impl_cloneLocks.mono _ _)
      | (with_reducible exact slices_Index_int_int.mono _ _ _)
      | (with_reducible exact LeO.refl _)
      | (with_reducible exact LeO.none _)
      | (with_reducible refine LeO.ite ?_ ?_)
      | (with_reducible refine LeO.bind ?_ (fun _ => ?_))
      | exact ih0 _ _ _ _ _
      | exact ih1 _ _ _ _ _
      | exact impl_LocksOk.mono _ _
      | exact impl_cloneLocks.mono _ _
      | exact slices_Index_int_int.mono _ _ _
      | exact LeO.none _
      | refine LeO.ite ?_ ?_
      | refine LeO.bind ?_ (fun _ => ?_)
    intro y0 y1 y2 y3 y4
    unfold impl_LockFree.j1
    repeat' first
    | (with_reducible exact ih0 _ _ _ _ _)
    | (with_reducible exact ih1 _ _ _ _ _)
    | (with_reducible exact impl_LocksOk.mono _ _)
    | (with_reducible exact impl_cloneLocks.mono _ _)
    | (with_reducible exact slices_Index_int_int.mono _ _ _)
    | (with_reducible exact LeO.refl _)
    | (with_reducible exact LeO.none _)
    | (with_reducible refine LeO.ite ?_ ?_)
    | (with_reducible refine LeO.bind ?_ (fun _ => ?_))
    | exact ih0 _ _ _ _ _
    | exact ih1 _ _ _ _ _
    | exact impl_LocksOk.mono _ _
    | exact impl_cloneLocks.mono _ _
    | exact slices_Index_int_int.mono _ _ _
    | exact LeO.none _
    | refine LeO.ite ?_ ?_
    | refine LeO.bind ?_ (fun _ => ?_)
theorem impl_LockFree.mono : ∀ a0 a1 a2 a3 k, LeO (impl_LockFree.f k a0 a1 a2 a3) (impl_LockFree.f (k + 1) a0 a1 a2 a3) := by
  intro a0 a1 a2 a3 k
  obtain ⟨ih0, ih1⟩ := impl_LockFree.mono_l k
  unfold impl_LockFree.f
  repeat' first
      | (with_reducible exact ih0 _ _ _ _ _)
      | (with_reducible exact ih1 _ _ _ _ _)
      | (with_reducible exact impl_LocksOk.mono _ _)
      | (with_reducible exact impl_cloneLocks.mono _ _)
      | (with_reducible exact slices_Index_int_int.mono _ _ _)
      | (with_reducible exact LeO.refl _)
      | (with_reducible exact LeO.none _)
      | (with_reducible refine LeO.ite ?_ ?_)
      | (with_reducible refine LeO.bind ?_ (fun _ => ?_))
      | exact ih0 _ _ _ _ _
      | exact ih1 _ _ _ _ _
      | exact impl_LocksOk.mono _ _
      | exact impl_cloneLocks.mono _ _
      | exact slices_Index_int_int.mono _ _ _
      | exact LeO.none _
      | refine LeO.ite ?_ ?_
      | refine LeO.bind ?_ (fun _ => ?_)
set_option maxHeartbeats 8000000 in
set_option maxRecDepth 100000 in
theorem impl_LockFree.calls (k : Nat) (A0 : Option Addr) (c0 : Nat) (l0 : List (S45)) (a1 : Int) (a2 : Int) (a3 : Int) (r1 : List (S45)) (r2 : Bool) (w : World) (hr0 : Kd.C k45 w A0 l0.length l0) (hc0 : l0.length ≤ c0) (h : impl_LockFree.f k l0 a1 a2 a3 = some (r1, r2)) :
    Calls Try.prog 19 #[.slice A0 l0.length c0, .int .i64 a1, .int .i64 a2, .int .i64 a3] w fun e w' => ∃ v0_ : Value, e = .returned (.tuple #[v0_, .bool r2]) ∧ Kd.S k45 45 w' w.heap.size (fun _ => True) v0_ r1 ∧ Below w.heap.size w w' := by
  have HR0 := Aside0.mk hr0
  have HC0 := Aside0.mk hc0
  clear hr0 hc0
  have HB := aM (Below.refl w.heap.size w)
  have H : ((impl_LocksOk.f k l0).bind fun t101 => (if t101 = true then ((impl_cloneLocks.f k l0).bind fun t102 => ((impl_in.f a1 0 (wrap64 ((l0.length : Int) - 1))).bind fun t105 => (if t105 = true then (if a2 = 0 then (impl_LockFree.j0 k l0 a1 a3 t102 true) else (if 0 ≤ a1 then (if a1 < (l0.length : Int) then (impl_LockFree.j0 k l0 a1 a3 t102 (((rd_T45 l0 a1).f0) != a2)) else (none)) else (none))) else (impl_LockFree.j0 k l0 a1 a3 t102 true)))) else (some (([] : List (S45)), false)))) = some (r1, r2) := h
  clear h
  replace H := Option.bind_eq_some_iff.mp H
  obtain ⟨t101, A50, H⟩ := H
  replace H : (if t101 = true then ((impl_cloneLocks.f k l0).bind fun t102 => ((impl_in.f a1 0 (wrap64 ((l0.length : Int) - 1))).bind fun t105 => (if t105 = true then (if a2 = 0 then (impl_LockFree.j0 k l0 a1 a3 t102 true) else (if 0 ≤ a1 then (if a1 < (l0.length : Int) then (impl_LockFree.j0 k l0 a1 a3 t102 (((rd_T45 l0 a1).f0) != a2)) else (none)) else (none))) else (impl_LockFree.j0 k l0 a1 a3 t102 true)))) else (some (([] : List (S45)), false))) = some (r1, r2) := H
  have A5 := Aside0.mk A50
  clear A50
  by_cases c6 : t101 = true
  · subst c6
    have H1 : ((impl_cloneLocks.f k l0).bind fun t102 => ((impl_in.f a1 0 (wrap64 ((l0.length : Int) - 1))).bind fun t105 => (if t105 = true then (if a2 = 0 then (impl_LockFree.j0 k l0 a1 a3 t102 true) else (if 0 ≤ a1 then (if a1 < (l0.length : Int) then (impl_LockFree.j0 k l0 a1 a3 t102 (((rd_T45 l0 a1).f0) != a2)) else (none)) else (none))) else (impl_LockFree.j0 k l0 a1 a3 t102 true)))) = some (r1, r2) := by rw [if_pos rfl] at H; exact H
    clear H
    have H := H1
    clear H1
    replace H := Option.bind_eq_some_iff.mp H
    obtain ⟨t102, A70, H⟩ := H
    replace H : ((impl_in.f a1 0 (wrap64 ((l0.length : Int) - 1))).bind fun t105 => (if t105 = true then (if a2 = 0 then (impl_LockFree.j0 k l0 a1 a3 t102 true) else (if 0 ≤ a1 then (if a1 < (l0.length : Int) then (impl_LockFree.j0 k l0 a1 a3 t102 (((rd_T45 l0 a1).f0) != a2)) else (none)) else (none))) else (impl_LockFree.j0 k l0 a1 a3 t102 true))) = some (r1, r2) := H
    have A7 := Aside0.mk A70
    clear A70
    have HC8 := Aside0.mk H
    clear H
    go_enter Try.func19, Try.ntmps19
    go_upto_region 4 with (first | ((with_reducible refine gate_callee (f := 24) rfl ?_); refine gL (some 13) Try.func24 #[.slice A0 l0.length c0] ?_; (with_reducible refine (impl_LocksOk.calls k _ _ l0 true _ ?side1 ?side2 A5.out).mono ?_); (case side1 => repeat (first | exact HR0.out | (with_reducible refine Kd.C_alloc ?_ _) | (with_reducible refine Kd.C_drewN ?_ _) | (with_reducible refine Kd.C_drew ?_))); (case side2 => exact HC0.out); rintro e w9 ⟨rfl, hb⟩; refine ⟨_, rfl, ?_⟩; have n0_ := aM (below_step (bq HB) hb); clear HB; have HB := n0_; clear n0_; (try clear hb); (try clear hb2); (try clear hk); (try clear hi)) | ((with_reducible refine gate_callee (f := 31) rfl ?_); refine gL (some 16) Try.func31 #[.slice A0 l0.length c0] ?_; (with_reducible refine (impl_cloneLocks.calls k _ _ l0 t102 _ ?side1 ?side2 A7.out).mono ?_); (case side1 => repeat (first | exact (Kd.C_below HR0.out HB.out) | (with_reducible refine Kd.C_alloc ?_ _) | (with_reducible refine Kd.C_drewN ?_ _) | (with_reducible refine Kd.C_drew ?_))); (case side2 => exact HC0.out); rintro e w10 ⟨v103, rfl, ho0, hb⟩; refine ⟨_, rfl, ?_⟩; have n0_ := aM (Kd.S_lower ho0 (below_size (bq HB))); have n1_ := aM (below_step (bq HB) hb); clear HB; have HO104 := n0_; have HB := n1_; clear n0_ n1_; (try clear hb); (try clear hb2); (try clear hk); (try clear hi); (try clear ho0)))
    (try simp only [Act.put, tA, tB, tC])
    go_cut [35] (fun v35 wc => ∃ (kq : Nat) (x35_7 : Bool), v35 = .bool x35_7 ∧ Aside0 (impl_LockFree.j0 kq l0 a1 a3 t102 x35_7 = some (r1, r2)) ∧ Aside0 (kq ≤ k) ∧ Aside0 (Kd.S k45 45 wc w.heap.size (fun _ => True) v103 t102) ∧ Aside0 (Below w.heap.size w wc))
    case first =>
      have H := HC8.out
      clear HC8
      replace H := Option.bind_eq_some_iff.mp H
      obtain ⟨t105, A110, H⟩ := H
      replace H : (if t105 = true then (if a2 = 0 then (impl_LockFree.j0 k l0 a1 a3 t102 true) else (if 0 ≤ a1 then (if a1 < (l0.length : Int) then (impl_LockFree.j0 k l0 a1 a3 t102 (((rd_T45 l0 a1).f0) != a2)) else (none)) else (none))) else (impl_LockFree.j0 k l0 a1 a3 t102 true)) = some (r1, r2) := H
      have A11 := Aside0.mk A110
      clear A110
      by_cases c12 : t105 = true
      · subst c12
        have H1 : (if a2 = 0 then (impl_LockFree.j0 k l0 a1 a3 t102 true) else (if 0 ≤ a1 then (if a1 < (l0.length : Int) then (impl_LockFree.j0 k l0 a1 a3 t102 (((rd_T45 l0 a1).f0) != a2)) else (none)) else (none))) = some (r1, r2) := by rw [if_pos rfl] at H; exact H
        clear H
        have H := H1
        clear H1
        by_cases c13 : a2 = 0
        · rw [if_pos c13] at H
          have c13b0 : (a2 == 0) = true := beq_iff_eq.mpr c13
          have c13b1 : (a2 != 0) = false := bne_eq_false_iff_eq.mpr c13
          clear c13
          (first | rw [c13b0] | (simp only [i64_w, i32_w]; rw [c13b0]) | skip)
          have H' := Aside0.mk H
          clear H
          go_wp2_with (first | ((with_reducible refine gate_callee (f := 32) rfl ?_); refine gL (some 21) Try.func32 #[.int .i64 a1, .int .i64 0, .int .i64 (wrap64 ((l0.length : Int) - 1))] ?_; (with_reducible refine (impl_in.calls a1 0 (wrap64 ((l0.length : Int) - 1)) true _ A11.out).mono ?_); rintro e w' ⟨rfl, ⟨nd, rfl⟩⟩; refine ⟨_, rfl, ?_⟩))
          go_meet
          case rel => exact ⟨_, (true), (by first | rfl | (simp; done) | (simp [*]; done)), H', ⟨by first | omega | exact Nat.le_refl _⟩, ⟨by (with_reducible repeat (first | apply Kd.S_alloc | apply Kd.S_drewN | apply Kd.S_drew)); exact HO104.out⟩, ⟨bq HB⟩⟩
        rw [if_neg c13] at H
        have c13b0 : (a2 == 0) = false := beq_eq_false_iff_ne.mpr c13
        have c13b1 : (a2 != 0) = true := bne_iff_ne.mpr c13
        (first | rw [c13b0] | (simp only [i64_w, i32_w]; rw [c13b0]) | skip)
        by_cases c14 : 0 ≤ a1
        · rw [if_pos c14] at H
          have c14b0 : decide (0 ≤ a1) = true := decide_eq_true c14
          clear c14
          by_cases c15 : a1 < (l0.length : Int)
          · rw [if_pos c15] at H
            have c15b0 : decide (a1 < (l0.length : Int)) = true := decide_eq_true c15
            clear c15
            have H' := Aside0.mk H
            clear H
            go_wp2_with (first | ((with_reducible refine gate_callee (f := 32) rfl ?_); refine gL (some 21) Try.func32 #[.int .i64 a1, .int .i64 0, .int .i64 (wrap64 ((l0.length : Int) - 1))] ?_; (with_reducible refine (impl_in.calls a1 0 (wrap64 ((l0.length : Int) - 1)) true _ A11.out).mono ?_); rintro e w' ⟨rfl, ⟨nd, rfl⟩⟩; refine ⟨_, rfl, ?_⟩; have p106 : 0 ≤ (a1 : Int) := of_decide_eq_true (by first | (with_reducible assumption) | assumption); have q106 : a1 < (l0.length : Int) := of_decide_eq_true (by first | (with_reducible assumption) | assumption); obtain ⟨ad106, A106_1, c106_1, e106, hx106_0, hx106_1, hl106_1, hi106_1⟩ := at_T45 HR0.out a1 p106 q106; cases e106; replace hx106_0 := (HB.out.cell (World.block_lt_of_cell? w _ hx106_0)).trans hx106_0; replace hx106_1 := (HB.out.cell (World.block_lt_of_cell? w _ hx106_1)).trans hx106_1; have HR106_1 := Aside0.mk hi106_1; have HC106_1 := Aside0.mk hl106_1; clear hi106_1 hl106_1; replace p106 := eq_true p106; replace q106 := eq_true q106))
            go_meet
            case rel => exact ⟨_, ((((rd_T45 l0 a1).f0) != a2)), (by first | rfl | (simp; done) | (simp [*]; done)), H', ⟨by first | omega | exact Nat.le_refl _⟩, ⟨by (with_reducible repeat (first | apply Kd.S_alloc | apply Kd.S_drewN | apply Kd.S_drew)); exact HO104.out⟩, ⟨bq HB⟩⟩
          rw [if_neg c15] at H
          exact absurd H (by simp)
        rw [if_neg c14] at H
        exact absurd H (by simp)
      replace c12 := Bool.eq_false_iff.mpr c12
      subst c12
      have H1 : (impl_LockFree.j0 k l0 a1 a3 t102 true) = some (r1, r2) := by rw [if_neg (show ¬ (false = true) by decide)] at H; exact H
      clear H
      have H := H1
      clear H1
      have H' := Aside0.mk H
      clear H
      go_wp2_with (first | ((with_reducible refine gate_callee (f := 32) rfl ?_); refine gL (some 21) Try.func32 #[.int .i64 a1, .int .i64 0, .int .i64 (wrap64 ((l0.length : Int) - 1))] ?_; (with_reducible refine (impl_in.calls a1 0 (wrap64 ((l0.length : Int) - 1)) false _ A11.out).mono ?_); rintro e w' ⟨rfl, ⟨nd, rfl⟩⟩; refine ⟨_, rfl, ?_⟩))
      go_meet
      case rel => exact ⟨_, (true), (by first | rfl | (simp; done) | (simp [*]; done)), H', ⟨by first | omega | exact Nat.le_refl _⟩, ⟨by (with_reducible repeat (first | apply Kd.S_alloc | apply Kd.S_drewN | apply Kd.S_drew)); exact HO104.out⟩, ⟨bq HB⟩⟩
    case rest =>
      clear HC8
      try clear c1
      try clear p1
      try clear q1
      try clear hx1
      try clear c2
      try clear p2
      try clear c3
      try clear c6
      try clear p6
      try clear c10
      try clear p10
      try clear q10
      try clear hx10
      try clear c12
      try clear c13
      try clear c13b0
      try clear c13b1
      try clear c14
      try clear c14b0
      try clear c15
      try clear c15b0
      try clear hx106_0
      try clear hx106_1
      try clear p106
      try clear q106
      obtain ⟨kq, x35_7, rfl, HA, HJ7, HO_10, HB⟩ := hcut
      cases kq with
      | zero => exact absurd HA.out (by simp [impl_LockFree.j0])
      | succ kj7 =>
        have H := HA.out
        clear HA
        simp only [impl_LockFree.j0] at H
        by_cases c16 : x35_7 = true
        · subst c16
          have H1 : (some (t102, false)) = some (r1, r2) := by rw [if_pos rfl] at H; exact H
          clear H
          have H := H1
          clear H1
          simp only [Option.some.injEq, Prod.mk.injEq] at H
          obtain ⟨rfl, rfl⟩ := H
          go_wp2
          go_ret2
          exact ⟨_, by first | rfl | (simp <;> rfl) | (simp [*] <;> rfl), by (with_reducible repeat (first | apply Kd.S_alloc | apply Kd.S_drewN | apply Kd.S_drew)); exact HO_10.out, bq HB⟩
        replace c16 := Bool.eq_false_iff.mpr c16
        subst c16
        have H1 : (if 0 ≤ a1 then (if a1 < (l0.length : Int) then ((slices_Index_int_int.f kj7 ((rd_T45 l0 a1).f1) a3).bind fun t108 => (if t108 < 0 then (if a3 = 0 then (impl_LockFree.j1 kj7 a1 a3 t102 t108 (decide ((((rd_T45 l0 a1).f1).length : Int) > 0))) else (impl_LockFree.j1 kj7 a1 a3 t102 t108 true)) else (impl_LockFree.j1 kj7 a1 a3 t102 t108 false))) else (none)) else (none)) = some (r1, r2) := by rw [if_neg (show ¬ (false = true) by decide)] at H; exact H
        clear H
        have H := H1
        clear H1
        by_cases c17 : 0 ≤ a1
        · rw [if_pos c17] at H
          have c17b0 : decide (0 ≤ a1) = true := decide_eq_true c17
          clear c17
          by_cases c18 : a1 < (l0.length : Int)
          · rw [if_pos c18] at H
            have c18b0 : decide (a1 < (l0.length : Int)) = true := decide_eq_true c18
            clear c18
            replace H := Option.bind_eq_some_iff.mp H
            obtain ⟨t108, A190, H⟩ := H
            replace H : (if t108 < 0 then (if a3 = 0 then (impl_LockFree.j1 kj7 a1 a3 t102 t108 (decide ((((rd_T45 l0 a1).f1).length : Int) > 0))) else (impl_LockFree.j1 kj7 a1 a3 t102 t108 true)) else (impl_LockFree.j1 kj7 a1 a3 t102 t108 false)) = some (r1, r2) := H
            have A19 := Aside0.mk A190
            clear A190
            have HC20 := Aside0.mk H
            clear H
            have p107 : 0 ≤ (a1 : Int) := of_decide_eq_true (by first | (with_reducible assumption) | assumption)
            have q107 : a1 < (l0.length : Int) := of_decide_eq_true (by first | (with_reducible assumption) | assumption)
            obtain ⟨ad107, A107_1, c107_1, e107, hx107_0, hx107_1, hl107_1, hi107_1⟩ := at_T45 HR0.out a1 p107 q107
            cases e107
            replace hx107_0 := (HB.out.cell (World.block_lt_of_cell? w _ hx107_0)).trans hx107_0
            replace hx107_1 := (HB.out.cell (World.block_lt_of_cell? w _ hx107_1)).trans hx107_1
            have HR107_1 := Aside0.mk hi107_1
            have HC107_1 := Aside0.mk hl107_1
            clear hi107_1 hl107_1
            replace p107 := eq_true p107
            replace q107 := eq_true q107
            go_upto_region 7 with (first | ((with_reducible refine gate_callee (f := 37) rfl ?_); refine gL (some 43) Try.func37 #[.slice A107_1 ((rd_T45 l0 a1).f1).length c107_1, .int .i64 a3] ?_; (with_reducible refine (slices_Index_int_int.calls kj7 _ _ ((rd_T45 l0 a1).f1) a3 t108 _ ?side1 ?side2 A19.out).mono ?_); (case side1 => repeat (first | exact (Kd.C_below HR107_1.out HB.out) | (with_reducible refine Kd.C_alloc ?_ _) | (with_reducible refine Kd.C_drewN ?_ _) | (with_reducible refine Kd.C_drew ?_))); (case side2 => exact HC107_1.out); rintro e w' ⟨rfl, ⟨nd, rfl⟩⟩; refine ⟨_, rfl, ?_⟩))
            (try simp only [Act.put, tA, tB, tC])
            go_cut [58] (fun v58 wc => ∃ (kq : Nat) (x58_19 : Bool), v58 = .bool x58_19 ∧ Aside0 (impl_LockFree.j1 kq a1 a3 t102 t108 x58_19 = some (r1, r2)) ∧ Aside0 (kq ≤ kj7) ∧ Aside0 (Kd.S k45 45 wc w.heap.size (fun _ => True) v103 t102) ∧ Aside0 (Below w.heap.size w wc))
            case first =>
              have H := HC20.out
              clear HC20
              by_cases c21 : t108 < 0
              · rw [if_pos c21] at H
                have c21b0 : decide (t108 < 0) = true := decide_eq_true c21
                clear c21
                (first | rw [c21b0] | (simp only [i64_w, i32_w]; rw [c21b0]) | skip)
                by_cases c22 : a3 = 0
                · rw [if_pos c22] at H
                  have c22b0 : (a3 == 0) = true := beq_iff_eq.mpr c22
                  have c22b1 : (a3 != 0) = false := bne_eq_false_iff_eq.mpr c22
                  clear c22
                  have H' := Aside0.mk H
                  clear H
                  have p109 : 0 ≤ (a1 : Int) := of_decide_eq_true (by first | (with_reducible assumption) | assumption)
                  have q109 : a1 < (l0.length : Int) := of_decide_eq_true (by first | (with_reducible assumption) | assumption)
                  obtain ⟨ad109, A109_1, c109_1, e109, hx109_0, hx109_1, hl109_1, hi109_1⟩ := at_T45 HR0.out a1 p109 q109
                  obtain rfl : ad107 = ad109 := (by injection e109)
                  replace hx109_0 := (HB.out.cell (World.block_lt_of_cell? w _ hx109_0)).trans hx109_0
                  replace hx109_1 := (HB.out.cell (World.block_lt_of_cell? w _ hx109_1)).trans hx109_1
                  have HR109_1 := Aside0.mk hi109_1
                  have HC109_1 := Aside0.mk hl109_1
                  clear hi109_1 hl109_1
                  replace p109 := eq_true p109
                  replace q109 := eq_true q109
                  go_wp2
                  go_meet
                  case rel => exact ⟨_, (decide ((((rd_T45 l0 a1).f1).length : Int) > 0)), (by first | rfl | (simp; done) | (simp [*]; done)), H', ⟨by have := HJ7.out; first | omega | exact Nat.le_refl _⟩, ⟨by (with_reducible repeat (first | apply Kd.S_alloc | apply Kd.S_drewN | apply Kd.S_drew)); exact HO_10.out⟩, ⟨bq HB⟩⟩
                rw [if_neg c22] at H
                have c22b0 : (a3 == 0) = false := beq_eq_false_iff_ne.mpr c22
                have c22b1 : (a3 != 0) = true := bne_iff_ne.mpr c22
                have H' := Aside0.mk H
                clear H
                go_wp2
                go_meet
                case rel => exact ⟨_, (true), (by first | rfl | (simp; done) | (simp [*]; done)), H', ⟨by have := HJ7.out; first | omega | exact Nat.le_refl _⟩, ⟨by (with_reducible repeat (first | apply Kd.S_alloc | apply Kd.S_drewN | apply Kd.S_drew)); exact HO_10.out⟩, ⟨bq HB⟩⟩
              rw [if_neg c21] at H
              have c21b0 : decide (t108 < 0) = false := decide_eq_false c21
              clear c21
              (first | rw [c21b0] | (simp only [i64_w, i32_w]; rw [c21b0]) | skip)
              have H' := Aside0.mk H
              clear H
              go_wp2
              go_meet
              case rel => exact ⟨_, (false), (by first | rfl | (simp; done) | (simp [*]; done)), H', ⟨by have := HJ7.out; first | omega | exact Nat.le_refl _⟩, ⟨by (with_reducible repeat (first | apply Kd.S_alloc | apply Kd.S_drewN | apply Kd.S_drew)); exact HO_10.out⟩, ⟨bq HB⟩⟩
            case rest =>
              clear HC20
              try clear c1
              try clear p1
              try clear q1
              try clear hx1
              try clear c2
              try clear p2
              try clear c3
              try clear c6
              try clear p6
              try clear c10
              try clear p10
              try clear q10
              try clear hx10
              try clear c12
              try clear c13
              try clear c13b0
              try clear c13b1
              try clear c14
              try clear c14b0
              try clear c15
              try clear c15b0
              try clear c16
              try clear c17
              try clear c17b0
              try clear c18
              try clear c18b0
              try clear c19
              try clear c21
              try clear c21b0
              try clear c22
              try clear c22b0
              try clear c22b1
              try clear hx106_0
              try clear hx106_1
              try clear hx107_0
              try clear hx107_1
              try clear hx109_0
              try clear hx109_1
              try clear p1
              try clear p10
              try clear p106
              try clear p107
              try clear p109
              try clear p2
              try clear p6
              try clear q1
              try clear q10
              try clear q106
              try clear q107
              try clear q109
              obtain ⟨kq, x58_19, rfl, HA, HJ19, HO_10, HB⟩ := hcut
              cases kq with
              | zero => exact absurd HA.out (by simp [impl_LockFree.j1])
              | succ kj19 =>
                have H := HA.out
                clear HA
                simp only [impl_LockFree.j1] at H
                by_cases c23 : x58_19 = true
                · subst c23
                  have H1 : (some (t102, false)) = some (r1, r2) := by rw [if_pos rfl] at H; exact H
                  clear H
                  have H := H1
                  clear H1
                  simp only [Option.some.injEq, Prod.mk.injEq] at H
                  obtain ⟨rfl, rfl⟩ := H
                  go_wp2
                  go_ret2
                  exact ⟨_, by first | rfl | (simp <;> rfl) | (simp [*] <;> rfl), by (with_reducible repeat (first | apply Kd.S_alloc | apply Kd.S_drewN | apply Kd.S_drew)); exact HO_10.out, bq HB⟩
                replace c23 := Bool.eq_false_iff.mpr c23
                subst c23
                have H1 : (if 0 ≤ a1 then (if a1 < (t102.length : Int) then ((some (t102.set (a1 : Int).toNat (⟨a3, (rd_T45 t102 a1).f1⟩ : S45) : List (S45))).bind fun y110 => (if t108 ≥ 0 then (if 0 ≤ t108 then (if t108 < (((rd_T45 y110 a1).f1).length : Int) then (if ((rd_T45 y110 a1).f1).length < 17592186044416 then (some ((y110.set (a1 : Int).toNat (⟨(rd_T45 y110 a1).f0, (((rd_T45 y110 a1).f1).eraseIdx (t108 : Int).toNat)⟩ : S45)), true)) else (none)) else (none)) else (none)) else (some (y110, true)))) else (none)) else (none)) = some (r1, r2) := by rw [if_neg (show ¬ (false = true) by decide)] at H; exact H
                clear H
                have H := H1
                clear H1
                by_cases c24 : 0 ≤ a1
                · rw [if_pos c24] at H
                  have c24b0 : decide (0 ≤ a1) = true := decide_eq_true c24
                  clear c24
                  by_cases c25 : a1 < (t102.length : Int)
                  · rw [if_pos c25] at H
                    have c25b0 : decide (a1 < (t102.length : Int)) = true := decide_eq_true c25
                    clear c25
                    obtain ⟨y110, hy110⟩ : ∃ y_ : List (S45), y_ = (t102.set (a1 : Int).toNat (⟨a3, (rd_T45 t102 a1).f1⟩ : S45)) := ⟨_, rfl⟩
                    replace H : (if t108 ≥ 0 then (if 0 ≤ t108 then (if t108 < (((rd_T45 y110 a1).f1).length : Int) then (if ((rd_T45 y110 a1).f1).length < 17592186044416 then (some ((y110.set (a1 : Int).toNat (⟨(rd_T45 y110 a1).f0, (((rd_T45 y110 a1).f1).eraseIdx (t108 : Int).toNat)⟩ : S45)), true)) else (none)) else (none)) else (none)) else (some (y110, true))) = some (r1, r2) := by first | (rw [hy110]; with_reducible exact H) | (have H2_ := (Option.bind_some _ _).symm.trans H; rw [hy110]; with_reducible exact H2_) | (have H2_ := (Option.bind_some _ _).symm.trans H; with_reducible exact H2_) | with_reducible exact H | (rw [hy110]; exact H) | exact H
                    have Ny110 := Aside0.mk hy110
                    clear hy110
                    by_cases c27 : t108 ≥ 0
                    · rw [if_pos c27] at H
                      have c27b0 : decide (0 ≤ t108) = true := decide_eq_true c27
                      clear c27
                      by_cases c28 : 0 ≤ t108
                      · rw [if_pos c28] at H
                        have c28b0 : decide (0 ≤ t108) = true := decide_eq_true c28
                        clear c28
                        by_cases c29 : t108 < (((rd_T45 y110 a1).f1).length : Int)
                        · rw [if_pos c29] at H
                          have c29b0 : decide (t108 < (((rd_T45 y110 a1).f1).length : Int)) = true := decide_eq_true c29
                          clear c29
                          by_cases c30 : ((rd_T45 y110 a1).f1).length < 17592186044416
                          · rw [if_pos c30] at H
                            have LMc30 := Aside0.mk c30
                            clear c30
                            obtain ⟨y112, hy112⟩ : ∃ y_ : List Int, y_ = (((rd_T45 y110 a1).f1).eraseIdx (t108 : Int).toNat) := ⟨_, rfl⟩
                            replace H : (some ((y110.set (a1 : Int).toNat (⟨(rd_T45 y110 a1).f0, y112⟩ : S45)), true)) = some (r1, r2) := by first | (rw [hy112]; with_reducible exact H) | (have H2_ := (Option.bind_some _ _).symm.trans H; rw [hy112]; with_reducible exact H2_) | (have H2_ := (Option.bind_some _ _).symm.trans H; with_reducible exact H2_) | with_reducible exact H | (rw [hy112]; exact H) | exact H
                            have Ny112 := Aside0.mk hy112
                            clear hy112
                            obtain ⟨y115, hy115⟩ : ∃ y_ : List (S45), y_ = (y110.set (a1 : Int).toNat (⟨(rd_T45 y110 a1).f0, y112⟩ : S45)) := ⟨_, rfl⟩
                            replace H : (some (y115, true)) = some (r1, r2) := by first | (rw [hy115]; with_reducible exact H) | (have H2_ := (Option.bind_some _ _).symm.trans H; rw [hy115]; with_reducible exact H2_) | (have H2_ := (Option.bind_some _ _).symm.trans H; with_reducible exact H2_) | with_reducible exact H | (rw [hy115]; exact H) | exact H
                            have Ny115 := Aside0.mk hy115
                            clear hy115
                            simp only [Option.some.injEq, Prod.mk.injEq] at H
                            obtain ⟨rfl, rfl⟩ := H
                            have p26 : 0 ≤ (a1 : Int) := of_decide_eq_true (by first | (with_reducible assumption) | assumption)
                            have q26 : (a1 : Int) < ((t102.length : Int) : Int) := of_decide_eq_true (by first | (with_reducible assumption) | assumption)
                            obtain ⟨go26, co26, eo26, gb26, gl26, cl26, HG26⟩ := Kd.S_form HO_10.out (by omega)
                            (first | cases eo26 | (injection eo26 with ea_ en_ ec_; (first | subst ea_ | (injection ea_ with ea_; subst ea_)); subst ec_; clear en_))
                            have GB26 := Aside0.mk gb26
                            have GG26 := Aside0.mk HG26
                            clear gb26 gl26 HG26
                            obtain ⟨_, ce26, hcl26, hM26, hcc26, hfr26, _, _⟩ := Kd.S_elem HO_10.out z45 (a1 : Int) p26 q26
                            obtain ⟨ve26_1, rfl, ge26_1⟩ := k45_openM hM26
                            have hx26_0 : wc.cell? ⟨go26, (a1 : Int).toNat * 2, none⟩ = some (.int .i64 ((rd_T45 t102 a1).f0)) := hcc26 0 _ rfl
                            have hx26_1 : wc.cell? ⟨go26, (a1 : Int).toNat * 2 + 1, none⟩ = some (ve26_1) := hcc26 1 _ rfl
                            have hf26_0 : wc.frozen? ⟨go26, (a1 : Int).toNat * 2, none⟩ = false := hfr26 0
                            have hf26_1 : wc.frozen? ⟨go26, (a1 : Int).toNat * 2 + 1, none⟩ = false := hfr26 1
                            clear hcl26 hcc26 hfr26 hM26
                            replace p26 := eq_true p26
                            replace q26 := eq_true q26
                            have HX32 := aM (show Kd.S k45 45 wc w.heap.size (fun k_ => ((fun _ => True)) k_ ∧ ¬ ((fun _ => False)) k_) (.slice (some ⟨go26, 0, none⟩) t102.length co26) t102 from (by (with_reducible repeat (first | apply Kd.S_alloc | apply Kd.S_drewN | apply Kd.S_drew)); exact Kd.S_mono HO_10.out (fun k_ hk => ⟨trivial, fun e_ => e_⟩)))
                            obtain ⟨oki32, ce32, hcl32, hM32, hcc32, hfr32, hoki32, hH32⟩ := Kd.S_elem HX32.out z45 (a1 : Int) (of_decide_eq_true (by first | (with_reducible assumption) | assumption)) (by have h_ : (a1 : Int) < ((t102.length : Int) : Int) := of_decide_eq_true (by first | (with_reducible assumption) | assumption); first | exact h_ | (have e_ := (Kd.S_reads' HO_10.out).1; omega) | simpa using h_)
                            obtain ⟨ve32_1, rfl, ge32_1⟩ := k45_openM hM32
                            have HP32 := Kd.S_seg hH32 (of_decide_eq_true (by first | (with_reducible assumption) | assumption)) (by have h_ : (a1 : Int) < ((t102.length : Int) : Int) := of_decide_eq_true (by first | (with_reducible assumption) | assumption); first | exact h_ | (have e_ := (Kd.S_reads' HO_10.out).1; omega) | simpa using h_) (seg := [.int .i64 a3]) (j := 0) (show 1 ≤ 2 from by decide) (x' := (⟨a3, (rd_T45 t102 a1).f1⟩ : S45)) (k45_mkM _ _ _ (⟨a3, (rd_T45 t102 a1).f1⟩ : S45) (Kd.R_mono ge32_1 (fun _ h_ => Or.inl h_))) (fun _ hk => hk) (fun k_ hk_ => hk_.elim)
                            have hx32_0 := hcc32 0 _ rfl
                            (try simp only [show (k45).sz = 2 from rfl, Nat.mul_one, Nat.add_zero] at hx32_0)
                            have hf32_0 := hfr32 0
                            (try simp only [show (k45).sz = 2 from rfl, Nat.mul_one, Nat.add_zero] at hf32_0)
                            clear hcl32 hcc32 hfr32 hM32 hoki32 hH32
                            go_wp2_with (first | ((with_reducible refine gate_store (t := 3) (p := 64) rfl ?_); refine store_event (t := 3) (p := 64) (v := ?vo_w33) (w1 := (wc.setCell ⟨go26, (a1 : Int).toNat * 2, none⟩ (.int .i64 a3))) ?hg ?ho ?hn ?hr ?_; (case ho => rfl); (case hg => rfl); (case hn => rfl); (case hr => first | (go_simp; done) | (go_simp; rfl)); intro w33 hw; have hg : wc.grownBy w33 (some go26) := (by rw [hw]; exact HP32.2); have hp_ : Kd.S k45 45 w33 w.heap.size (fun _ => True) (.slice (some ⟨go26, 0, none⟩) t102.length co26) y110 := (by rw [hw, Ny110.out]; exact HP32.1); clear HP32; have n0_ := aM (hp_); have n1_ := aM ((by rw [hw]; exact below_set (HB.out) GB26.out : Below w.heap.size w w33)); clear HO_10 HB; have HO_10 := n0_; have HB := n1_; clear n0_ n1_; clear hg hw hp_; have p111 : 0 ≤ (a1 : Int) := of_decide_eq_true (by first | (with_reducible assumption) | assumption); have q111 : a1 < (y110.length : Int) := (by have h_ : (a1 : Int) < ((t102.length : Int) : Int) := of_decide_eq_true (by first | (with_reducible assumption) | assumption); first | (have e_ := (Kd.S_reads' HO_10.out).1; omega) | simpa only [Ny110.out, List.length_set] using h_); have ql111 : ((a1 : Int) < ((t102.length : Int) : Int)) = True := eq_true (of_decide_eq_true (by first | (with_reducible assumption) | assumption)); obtain ⟨ad111, A111_1, c111_1, e111, hx111_0, hx111_1, hl111_1, hi111_1⟩ := at_T45 (Kd.S_reads' HO_10.out).2.2 a1 p111 q111; obtain rfl : (⟨go26, 0, none⟩ : Addr) = ad111 := (by injection e111); obtain ⟨ce111, hce111, hMe111, hcc111⟩ := Kd.S_get HO_10.out z45 a1 p111 (by first | exact q111 | exact of_decide_eq_true (by first | (with_reducible assumption) | assumption) | (have e_ := (Kd.S_reads' HO_10.out).1; omega)); obtain ⟨ve111_1, rfl, ge111_1⟩ := k45_openM hMe111; have hv111_1 := hcc111 1 _ rfl; rw [add_field _ _ 1 (by omega)] at hv111_1; replace hv111_1 := Option.some.inj (hv111_1.symm.trans hx111_1); rw [hv111_1] at ge111_1; have HL111_1 := aM (show Kd.R (Kd.int .i64) 3 _ _ _ _ ((rd_T45 y110 a1).f1) from ge111_1); clear hv111_1 ge111_1; have HX111_1 := Aside0.mk hx111_1; clear hcc111 hce111; (first | simp only [add_plain] at hx111_0 | simp only [add_at] at hx111_0 | simp only [Addr.add, Nat.zero_add] at hx111_0 | skip); (first | simp only [add_plain] at hx111_1 | simp only [add_at] at hx111_1 | simp only [Addr.add, Nat.zero_add] at hx111_1 | skip); have HR111_1 := Aside0.mk hi111_1; have HC111_1 := Aside0.mk hl111_1; clear hi111_1 hl111_1; replace p111 := eq_true p111; replace q111 := eq_true q111; obtain ⟨oki34, ce34, hcl34, hM34, hcc34, _, _, hH34⟩ := Kd.S_elem HO_10.out z45 (a1 : Int) (of_decide_eq_true (by first | (with_reducible assumption) | assumption)) (by have h_ : (a1 : Int) < ((t102.length : Int) : Int) := of_decide_eq_true (by first | (with_reducible assumption) | assumption); first | exact h_ | (have e_ := (Kd.S_reads' HO_10.out).1; omega) | simpa using h_); obtain ⟨ve34_1, rfl, ge34_1⟩ := k45_openM hM34; have hv34 := hcc34 1 _ rfl; have hX34 := HX111_1.out; (try simp only [add_plain] at hX34); (try simp only [Nat.add_zero] at hv34); replace hv34 := Option.some.inj (hv34.symm.trans hX34); subst hv34; clear hX34 hcc34 hcl34; have UU34 := aM (show Kd.R (Kd.int .i64) 3 _ w.heap.size oki34 (.slice A111_1 ((rd_T45 y110 a1).f1).length c111_1) ((rd_T45 y110 a1).f1) from ge34_1); have HH34 := Aside0.mk hH34; have HN34 := aM (Kd.S_reads' HO_10.out).1; clear hH34 ge34_1) | ((with_reducible refine gate_callee (f := 38) rfl ?_); (try (refine gate_guard (by rfl) ?_; dsimp only)); refine gL (some 77) Try.func38 #[.slice A111_1 ((rd_T45 y110 a1).f1).length c111_1, .int .i64 t108, .int .i64 (wrap64 (t108 + 1))] ?_; refine (slices_Delete_int_int.del w.heap.size w _ (fun k_ => oki34 k_ ∨ ((fun _ => True)) k_ ∧ w33.heap.size ≤ k_) A111_1 c111_1 ((rd_T45 y110 a1).f1) (by (with_reducible repeat (first | apply Kd.R_alloc | apply Kd.R_drewN | apply Kd.R_drew)); exact Kd.R_mono UU34.out (fun _ hk => .inl hk)) (bq HB) (below_size (bq HB)) t108 _ (of_decide_eq_true (by first | (with_reducible assumption) | assumption)) (of_decide_eq_true (by first | (with_reducible assumption) | assumption)) rfl).mono ?_; rintro e w35 ⟨v113, rfl, ho, hb, hg, hat⟩; refine ⟨_, rfl, ?_⟩; rw [← Ny112.out] at ho; have n0_ := aM (hb); have n1_ := aM (Kd.H_grown (Kd.H_widen (by repeat (first | exact HH34.out | refine Kd.H_alloc ?_ _ | refine Kd.H_drewN ?_ _ | refine Kd.H_drew ?_))) hg (fun k_ e_ => .inl (UU34.out.1 k_ e_))); have n2_ := aM (ho); clear HB HH34 HO_10 UU34 HL111_1; have HB := n0_; have HH34 := n1_; have HO114 := n2_; clear n0_ n1_ n2_; clear ho hb hg hat; have p31 : 0 ≤ (a1 : Int) := of_decide_eq_true (by first | (with_reducible assumption) | assumption); have q31 : (a1 : Int) < ((t102.length : Int) : Int) := of_decide_eq_true (by first | (with_reducible assumption) | assumption); replace p31 := eq_true p31; replace q31 := eq_true q31; obtain ⟨Ao38, co38, eo38⟩ := Kd.R_slice HO114.out; subst eo38; obtain ⟨_, _, hraw36, _, _, hcc36, _⟩ := Kd.H_raw HH34.out (of_decide_eq_true (by first | (with_reducible assumption) | assumption)) (by have h_ : (a1 : Int) < ((t102.length : Int) : Int) := of_decide_eq_true (by first | (with_reducible assumption) | assumption); first | exact h_ | (have e_ := (HN34.out); omega) | simpa using h_); obtain ⟨_, hfr36⟩ := Kd.H_at HH34.out (of_decide_eq_true (by first | (with_reducible assumption) | assumption)) (by have h_ : (a1 : Int) < ((t102.length : Int) : Int) := of_decide_eq_true (by first | (with_reducible assumption) | assumption); first | exact h_ | (have e_ := (HN34.out); omega) | simpa using h_); have hx36_0 := hcc36 1 _ rfl; have hf36_0 := hfr36 1; (try rw [show (k45).sz = 2 from rfl] at hx36_0); (try rw [show (k45).sz = 2 from rfl] at hf36_0); have HP36 := Kd.S_seg0 HH34.out (of_decide_eq_true (by first | (with_reducible assumption) | assumption)) (by have h_ : (a1 : Int) < ((t102.length : Int) : Int) := of_decide_eq_true (by first | (with_reducible assumption) | assumption); first | exact h_ | (have e_ := (HN34.out); omega) | simpa using h_) (seg := [.slice Ao38 y112.length co38]) (j := 1) (show 2 ≤ 2 from by decide) (x' := (⟨(rd_T45 y110 a1).f0, y112⟩ : S45)) (k45_mkM _ _ _ (⟨(rd_T45 y110 a1).f0, y112⟩ : S45) HO114.out) (fun _ hk => hk); clear hcc36 hfr36) | ((with_reducible refine gate_store (t := 24) (p := 79) rfl ?_); refine store_event (t := 24) (p := 79) (v := ?vo_w37) (w1 := (w35.setCell ⟨go26, (a1 : Int).toNat * 2 + 1, none⟩ (.slice Ao38 y112.length co38))) ?hg ?ho ?hn ?hr ?_; (case ho => rfl); (case hg => rfl); (case hn => rfl); (case hr => first | (go_simp; done) | (go_simp; rfl)); intro w37 hw; have hg : w35.grownBy w37 (some go26) := (by rw [hw]; exact HP36.2); have hp_ : Kd.S k45 45 w37 w.heap.size (fun _ => True) (.slice (some ⟨go26, 0, none⟩) t102.length co26) y115 := (by rw [hw, Ny115.out]; exact HP36.1); clear HP36; have n0_ := aM ((by rw [hw]; exact below_set HB.out GB26.out : Below w.heap.size w w37)); have n1_ := aM (hp_); clear HB HO114 HH34; have HB := n0_; have HO_10 := n1_; clear n0_ n1_; clear hg hw hp_ hraw36))
                            go_ret2
                            exact ⟨_, by first | rfl | (simp <;> rfl) | (simp [*] <;> rfl), by (with_reducible repeat (first | apply Kd.S_alloc | apply Kd.S_drewN | apply Kd.S_drew)); exact HO_10.out, bq HB⟩
                          rw [if_neg c30] at H
                          exact absurd H (by simp)
                        rw [if_neg c29] at H
                        exact absurd H (by simp)
                      rw [if_neg c28] at H
                      exact absurd H (by simp)
                    rw [if_neg c27] at H
                    have c27b0 : decide (0 ≤ t108) = false := decide_eq_false c27
                    clear c27
                    simp only [Option.some.injEq, Prod.mk.injEq] at H
                    obtain ⟨rfl, rfl⟩ := H
                    have p26 : 0 ≤ (a1 : Int) := of_decide_eq_true (by first | (with_reducible assumption) | assumption)
                    have q26 : (a1 : Int) < ((t102.length : Int) : Int) := of_decide_eq_true (by first | (with_reducible assumption) | assumption)
                    obtain ⟨go26, co26, eo26, gb26, gl26, cl26, HG26⟩ := Kd.S_form HO_10.out (by omega)
                    (first | cases eo26 | (injection eo26 with ea_ en_ ec_; (first | subst ea_ | (injection ea_ with ea_; subst ea_)); subst ec_; clear en_))
                    have GB26 := Aside0.mk gb26
                    have GG26 := Aside0.mk HG26
                    clear gb26 gl26 HG26
                    obtain ⟨_, ce26, hcl26, hM26, hcc26, hfr26, _, _⟩ := Kd.S_elem HO_10.out z45 (a1 : Int) p26 q26
                    obtain ⟨ve26_1, rfl, ge26_1⟩ := k45_openM hM26
                    have hx26_0 : wc.cell? ⟨go26, (a1 : Int).toNat * 2, none⟩ = some (.int .i64 ((rd_T45 t102 a1).f0)) := hcc26 0 _ rfl
                    have hx26_1 : wc.cell? ⟨go26, (a1 : Int).toNat * 2 + 1, none⟩ = some (ve26_1) := hcc26 1 _ rfl
                    have hf26_0 : wc.frozen? ⟨go26, (a1 : Int).toNat * 2, none⟩ = false := hfr26 0
                    have hf26_1 : wc.frozen? ⟨go26, (a1 : Int).toNat * 2 + 1, none⟩ = false := hfr26 1
                    clear hcl26 hcc26 hfr26 hM26
                    replace p26 := eq_true p26
                    replace q26 := eq_true q26
                    have HX39 := aM (show Kd.S k45 45 wc w.heap.size (fun k_ => ((fun _ => True)) k_ ∧ ¬ ((fun _ => False)) k_) (.slice (some ⟨go26, 0, none⟩) t102.length co26) t102 from (by (with_reducible repeat (first | apply Kd.S_alloc | apply Kd.S_drewN | apply Kd.S_drew)); exact Kd.S_mono HO_10.out (fun k_ hk => ⟨trivial, fun e_ => e_⟩)))
                    obtain ⟨oki39, ce39, hcl39, hM39, hcc39, hfr39, hoki39, hH39⟩ := Kd.S_elem HX39.out z45 (a1 : Int) (of_decide_eq_true (by first | (with_reducible assumption) | assumption)) (by have h_ : (a1 : Int) < ((t102.length : Int) : Int) := of_decide_eq_true (by first | (with_reducible assumption) | assumption); first | exact h_ | (have e_ := (Kd.S_reads' HO_10.out).1; omega) | simpa using h_)
                    obtain ⟨ve39_1, rfl, ge39_1⟩ := k45_openM hM39
                    have HP39 := Kd.S_seg hH39 (of_decide_eq_true (by first | (with_reducible assumption) | assumption)) (by have h_ : (a1 : Int) < ((t102.length : Int) : Int) := of_decide_eq_true (by first | (with_reducible assumption) | assumption); first | exact h_ | (have e_ := (Kd.S_reads' HO_10.out).1; omega) | simpa using h_) (seg := [.int .i64 a3]) (j := 0) (show 1 ≤ 2 from by decide) (x' := (⟨a3, (rd_T45 t102 a1).f1⟩ : S45)) (k45_mkM _ _ _ (⟨a3, (rd_T45 t102 a1).f1⟩ : S45) (Kd.R_mono ge39_1 (fun _ h_ => Or.inl h_))) (fun _ hk => hk) (fun k_ hk_ => hk_.elim)
                    have hx39_0 := hcc39 0 _ rfl
                    (try simp only [show (k45).sz = 2 from rfl, Nat.mul_one, Nat.add_zero] at hx39_0)
                    have hf39_0 := hfr39 0
                    (try simp only [show (k45).sz = 2 from rfl, Nat.mul_one, Nat.add_zero] at hf39_0)
                    clear hcl39 hcc39 hfr39 hM39 hoki39 hH39
                    go_wp2_with (first | ((with_reducible refine gate_store (t := 3) (p := 64) rfl ?_); refine store_event (t := 3) (p := 64) (v := ?vo_w40) (w1 := (wc.setCell ⟨go26, (a1 : Int).toNat * 2, none⟩ (.int .i64 a3))) ?hg ?ho ?hn ?hr ?_; (case ho => rfl); (case hg => rfl); (case hn => rfl); (case hr => first | (go_simp; done) | (go_simp; rfl)); intro w40 hw; have hg : wc.grownBy w40 (some go26) := (by rw [hw]; exact HP39.2); have hp_ : Kd.S k45 45 w40 w.heap.size (fun _ => True) (.slice (some ⟨go26, 0, none⟩) t102.length co26) y110 := (by rw [hw, Ny110.out]; exact HP39.1); clear HP39; have n0_ := aM (hp_); have n1_ := aM ((by rw [hw]; exact below_set (HB.out) GB26.out : Below w.heap.size w w40)); clear HO_10 HB; have HO_10 := n0_; have HB := n1_; clear n0_ n1_; clear hg hw hp_))
                    go_ret2
                    exact ⟨_, by first | rfl | (simp <;> rfl) | (simp [*] <;> rfl), by (with_reducible repeat (first | apply Kd.S_alloc | apply Kd.S_drewN | apply Kd.S_drew)); exact HO_10.out, bq HB⟩
                  rw [if_neg c25] at H
                  exact absurd H (by simp)
                rw [if_neg c24] at H
                exact absurd H (by simp)
          rw [if_neg c18] at H
          exact absurd H (by simp)
        rw [if_neg c17] at H
        exact absurd H (by simp)
  replace c6 := Bool.eq_false_iff.mpr c6
  subst c6
  have H1 : (some (([] : List (S45)), false)) = some (r1, r2) := by rw [if_neg (show ¬ (false = true) by decide)] at H; exact H
  clear H
  have H := H1
  clear H1
  simp only [Option.some.injEq, Prod.mk.injEq] at H
  obtain ⟨rfl, rfl⟩ := H
  go_enter Try.func19, Try.ntmps19
  go_wp2_with (first | ((with_reducible refine gate_callee (f := 24) rfl ?_); refine gL (some 13) Try.func24 #[.slice A0 l0.length c0] ?_; (with_reducible refine (impl_LocksOk.calls k _ _ l0 false _ ?side1 ?side2 A5.out).mono ?_); (case side1 => repeat (first | exact HR0.out | (with_reducible refine Kd.C_alloc ?_ _) | (with_reducible refine Kd.C_drewN ?_ _) | (with_reducible refine Kd.C_drew ?_))); (case side2 => exact HC0.out); rintro e w41 ⟨rfl, hb⟩; refine ⟨_, rfl, ?_⟩; have n0_ := aM (below_step (bq HB) hb); clear HB; have HB := n0_; clear n0_; (try clear hb); (try clear hb2); (try clear hk); (try clear hi)))
  go_ret2
  exact ⟨_, by first | rfl | (simp <;> rfl) | (simp [*] <;> rfl), by first | exact Kd.S_nil _ _ _ _ _ | exact Kd.N_nil _ _ _ _ _ | exact Kd.V_nil _ _ _ _ _ | exact Kd.Q_nil _ _ _ _ _ | exact Kd.R_nil _ _ _ _ _, bq HB⟩

/-! ### laws_FnExactLockFree: function 5, by hand -/
-- MANUAL rounds=yes making=yes
-- LAW
def laws_FnExactLockFree.f (k : Nat) (l0 : List (S41)) (a1 : Int) (a2 : Int) (a3 : Int) : Option Bool := (laws_szLockS.f k l0 1048576).bind fun t => if t < 0 then some true else (laws_toLockS.f k l0).bind fun x => (spec_LockFree.f k x a1 a2 a3).bind fun s => (impl_LockFree.f k x a1 a2 a3).bind fun g => (laws_eqLockS.f k g.1 s.1).bind fun q1 => (laws_eqLockS.f k x x).bind fun q2 => (laws_markLockS.f k x 1).bind fun m => (laws_markLockS.f k g.1 1).bind fun n => (laws_heldLockS.f k n.2 1).bind fun h => if ((q1 = true ∧ q2 = true) ∧ g.2 = s.2) ∧ ¬ m.1 < 0 ∧ ¬ h < 0 ∧ h = n.1 then some true else none
set_option maxHeartbeats 8000000 in
set_option maxRecDepth 100000 in
theorem laws_FnExactLockFree.calls (k : Nat) (A0 : Option Addr) (c0 : Nat) (l0 : List (S41)) (a1 : Int) (a2 : Int) (a3 : Int) (r : Bool) (w : World) (hr0 : Kd.C k41 w A0 l0.length l0) (hc0 : l0.length ≤ c0) (hrt : r = true) (h : laws_FnExactLockFree.f k l0 a1 a2 a3 = some r) :
    Calls Try.prog 5 #[.slice A0 l0.length c0, .int .i64 a1, .int .i64 a2, .int .i64 a3] w fun e w' => e = .returned (.bool r) ∧ Below w.heap.size w w' := by
  have HR0 := Aside0.mk hr0
  have HC0 := Aside0.mk hc0
  clear hr0 hc0
  subst hrt
  unfold laws_FnExactLockFree.f at h
  obtain ⟨t, A1, h⟩ := Option.bind_eq_some_iff.mp h
  have A1 := Aside0.mk A1
  have T1 : Aside0 True := ⟨trivial⟩
  by_cases ht : t < 0
  · have htd : decide (t < 0) = true := decide_eq_true ht
    clear h ht
    go_enter Try.func5, Try.ntmps5
    go_wp2_with (clear T1; go_at_call 6; refine (laws_szLockS.calls k A0 c0 l0 1048576 t w HR0.out HC0.out A1.out).mono ?_; rintro e w1 ⟨rfl, hb⟩; have HB := aM hb; have Z1 := aM hb.size; clear hb)
    all_goals go_ret
    all_goals exact ⟨rfl, HB.out⟩
  rw [if_neg ht] at h
  have htd : decide (t < 0) = false := decide_eq_false ht
  clear ht
  obtain ⟨x, A2, h⟩ := Option.bind_eq_some_iff.mp h
  obtain ⟨⟨s, s2⟩, A3, h⟩ := Option.bind_eq_some_iff.mp h
  obtain ⟨⟨g, g2⟩, A4, h⟩ := Option.bind_eq_some_iff.mp h
  obtain ⟨q1, A5, h⟩ := Option.bind_eq_some_iff.mp h
  obtain ⟨q2, A6, h⟩ := Option.bind_eq_some_iff.mp h
  obtain ⟨⟨m, xm⟩, A7, h⟩ := Option.bind_eq_some_iff.mp h
  obtain ⟨⟨n, gm⟩, A8, h⟩ := Option.bind_eq_some_iff.mp h
  obtain ⟨hh, A9, h⟩ := Option.bind_eq_some_iff.mp h
  split at h
  rotate_left
  · cases h
  rename_i hcnd
  clear h
  obtain ⟨⟨⟨hq1, hq2⟩, hs2⟩, hm0, hh0, hhn⟩ := hcnd
  subst hq1
  subst hq2
  have hs2 : g2 = s2 := hs2
  subst hs2
  have hm0 : ¬ m < 0 := hm0
  have hhn : hh = n := hhn
  subst hhn
  have hmd : decide (m < 0) = false := decide_eq_false hm0
  have hhd : decide (hh < 0) = false := decide_eq_false hh0
  clear hm0 hh0
  have A2 := Aside0.mk A2
  have A3 := Aside0.mk A3
  have A4 := Aside0.mk A4
  have A5 := Aside0.mk A5
  have A6 := Aside0.mk A6
  have A7 := Aside0.mk A7
  have A8 := Aside0.mk A8
  have A9 := Aside0.mk A9
  have T2 : Aside0 True := ⟨trivial⟩
  have T3 : Aside0 True := ⟨trivial⟩
  have T4 : Aside0 True := ⟨trivial⟩
  have T5 : Aside0 True := ⟨trivial⟩
  have T6 : Aside0 True := ⟨trivial⟩
  have T7 : Aside0 True := ⟨trivial⟩
  have T8 : Aside0 True := ⟨trivial⟩
  have T9 : Aside0 True := ⟨trivial⟩
  have T10 : Aside0 True := ⟨trivial⟩
  have T11 : Aside0 True := ⟨trivial⟩
  have T12 : Aside0 True := ⟨trivial⟩
  have T13 : Aside0 True := ⟨trivial⟩
  have T14 : Aside0 True := ⟨trivial⟩
  have T15 : Aside0 True := ⟨trivial⟩
  have T16 : Aside0 True := ⟨trivial⟩
  go_enter Try.func5, Try.ntmps5
  go_wp2_with (first | (clear T1; go_at_call 6; refine (laws_szLockS.calls k A0 c0 l0 1048576 t w HR0.out HC0.out A1.out).mono ?_; rintro e w1 ⟨rfl, hb⟩; have HB := aM hb; have Z1 := aM hb.size; clear hb) | (clear T2; go_at_call 8; refine (laws_toLockS.calls k A0 c0 l0 x w1 (Kd.C_below HR0.out HB.out) HC0.out A2.out).mono ?_; rintro e w2 ⟨v_, rfl, ho, hb⟩; have Z2 := aM hb.size; have Fa := aM (bornS ho HB.out.size); have HB := aM (below_step HB.out hb); obtain ⟨Va, ca, rfl, _, _⟩ := Kd.S_reads Fa.out; clear hb ho) | (clear T3; go_at_call 18; refine (spec_LockFree.calls k Va ca x a1 a2 a3 s g2 w2 (Kd.S_reads' Fa.out).2.2 (Kd.S_reads' Fa.out).2.1 A3.out).mono ?_; rintro e w3 ⟨v_, rfl, ho, hb⟩; have Z3 := aM hb.size; have Fa := aM (Kd.S_below Fa.out hb); have FGsa := aM (bornS ho HB.out.size); have HB := aM (below_step HB.out hb); obtain ⟨VGsa, cGsa, rfl, _, _⟩ := Kd.S_reads FGsa.out; clear hb ho) | (clear T4; go_at_call 8; refine (laws_toLockS.calls k A0 c0 l0 x w3 (Kd.C_below HR0.out HB.out) HC0.out A2.out).mono ?_; rintro e w4 ⟨v_, rfl, ho, hb⟩; have Z4 := aM hb.size; clear Fa; have FGsa := aM (Kd.S_below FGsa.out hb); have Fb := aM (bornS ho HB.out.size); have HB := aM (below_step HB.out hb); obtain ⟨Vb, cb, rfl, _, _⟩ := Kd.S_reads Fb.out; clear hb ho) | (clear T5; go_at_call 19; refine (impl_LockFree.calls k Vb cb x a1 a2 a3 g g2 w4 (Kd.S_reads' Fb.out).2.2 (Kd.S_reads' Fb.out).2.1 A4.out).mono ?_; rintro e w5 ⟨v_, rfl, ho, hb⟩; have Z5 := aM hb.size; have FGsa := aM (Kd.S_below FGsa.out hb); have Fb := aM (Kd.S_below Fb.out hb); have FGgb := aM (bornS ho HB.out.size); have HB := aM (below_step HB.out hb); obtain ⟨VGgb, cGgb, rfl, _, _⟩ := Kd.S_reads FGgb.out; clear hb ho) | (clear T6; go_at_call 11; refine (laws_eqLockS.calls k VGgb cGgb g VGsa cGsa s true w5 (Kd.S_reads' FGgb.out).2.2 (Kd.S_reads' FGgb.out).2.1 (Kd.S_reads' FGsa.out).2.2 (Kd.S_reads' FGsa.out).2.1 A5.out).mono ?_; rintro e w6 ⟨rfl, hb⟩; have Z6 := aM hb.size; have FGsa := aM (Kd.S_below FGsa.out hb); have Fb := aM (Kd.S_below Fb.out hb); have FGgb := aM (Kd.S_below FGgb.out hb); have HB := aM (below_step HB.out hb); clear hb) | (clear T7; go_at_call 8; refine (laws_toLockS.calls k A0 c0 l0 x w6 (Kd.C_below HR0.out HB.out) HC0.out A2.out).mono ?_; rintro e w7 ⟨v_, rfl, ho, hb⟩; have Z7 := aM hb.size; have FGsa := aM (Kd.S_below FGsa.out hb); have Fb := aM (Kd.S_below Fb.out hb); have FGgb := aM (Kd.S_below FGgb.out hb); have Fd := aM (bornS ho HB.out.size); have HB := aM (below_step HB.out hb); obtain ⟨Vd, cd, rfl, _, _⟩ := Kd.S_reads Fd.out; clear hb ho) | (clear T8; go_at_call 11; refine (laws_eqLockS.calls k Vb cb x Vd cd x true w7 (Kd.S_reads' Fb.out).2.2 (Kd.S_reads' Fb.out).2.1 (Kd.S_reads' Fd.out).2.2 (Kd.S_reads' Fd.out).2.1 A6.out).mono ?_; rintro e w8 ⟨rfl, hb⟩; have Z8 := aM hb.size; clear Fd; have FGsa := aM (Kd.S_below FGsa.out hb); have Fb := aM (Kd.S_below Fb.out hb); have FGgb := aM (Kd.S_below FGgb.out hb); have HB := aM (below_step HB.out hb); clear hb) | (clear T9; go_at_call 12; refine (laws_markLockS.calls k (fun k_ => w3.heap.size ≤ k_ ∧ k_ < w4.heap.size) (.slice Vb x.length cb) x 1 m xm w w8 HB.out Fb.out A7.out).mono ?_; rintro e w9 ⟨rfl, hy, hb, hk⟩; have Z9 := aM hk.1; have FGsa := aM (Kd.S_kept FGsa.out hk (fun k_ h1_ h2_ => Nat.lt_irrefl k_ (Nat.lt_of_lt_of_le h1_.2 (Nat.le_trans (Nat.le_refl _) h2_.1)))); have FGgb := aM (Kd.S_kept FGgb.out hk (fun k_ h1_ h2_ => Nat.lt_irrefl k_ (Nat.lt_of_lt_of_le h2_.2 (Nat.le_trans (Nat.le_refl _) h1_.1)))); have Fb := aM hy; have Nb := aM (Kd.S_reads' hy).1; have HB := aM hb; clear hb hk hy; clear Fb Nb) | (clear T10; go_at_call 11; refine (laws_eqLockS.calls k VGgb cGgb g VGsa cGsa s true w9 (Kd.S_reads' FGgb.out).2.2 (Kd.S_reads' FGgb.out).2.1 (Kd.S_reads' FGsa.out).2.2 (Kd.S_reads' FGsa.out).2.1 A5.out).mono ?_; rintro e w10 ⟨rfl, hb⟩; have Z10 := aM hb.size; have FGsa := aM (Kd.S_below FGsa.out hb); have FGgb := aM (Kd.S_below FGgb.out hb); have HB := aM (below_step HB.out hb); clear hb) | (clear T11; go_at_call 12; refine (laws_markLockS.calls k (fun k_ => w4.heap.size ≤ k_ ∧ k_ < w5.heap.size) (.slice VGgb g.length cGgb) g 1 hh gm w w10 HB.out FGgb.out A8.out).mono ?_; rintro e w11 ⟨rfl, hy, hb, hk⟩; have Z11 := aM hk.1; have FGsa := aM (Kd.S_kept FGsa.out hk (fun k_ h1_ h2_ => Nat.lt_irrefl k_ (Nat.lt_of_lt_of_le h1_.2 (Nat.le_trans Z4.out h2_.1)))); have FGgb := aM hy; have NGgb := aM (Kd.S_reads' hy).1; have HB := aM hb; clear hb hk hy) | (clear T12; go_at_call 17; refine ((by have c_ := laws_heldLockS.calls k VGgb cGgb gm 1 hh w11 (by have h_ := (Kd.S_reads' FGgb.out).2.2; exact h_) (by have h_ := (Kd.S_reads' FGgb.out); rw [← h_.1]; exact h_.2.1) A9.out; rw [← NGgb.out] at c_; exact c_ : Calls Try.prog 17 #[.slice VGgb g.length cGgb, .int .i64 1] w11 _)).mono ?_; rintro e w12 ⟨rfl, hd⟩; have hb := hd.below; have Z12 := aM hb.size; have FGsa := aM (Kd.S_below FGsa.out hb); have FGgb := aM (Kd.S_below FGgb.out hb); have HB := aM (below_step HB.out hb); clear hb hd) | (clear T13; go_at_call 8; refine (laws_toLockS.calls k A0 c0 l0 x w12 (Kd.C_below HR0.out HB.out) HC0.out A2.out).mono ?_; rintro e w13 ⟨v_, rfl, ho, hb⟩; have Z13 := aM hb.size; have FGsa := aM (Kd.S_below FGsa.out hb); have FGgb := aM (Kd.S_below FGgb.out hb); have Fe := aM (bornS ho HB.out.size); have HB := aM (below_step HB.out hb); obtain ⟨Ve, ce, rfl, _, _⟩ := Kd.S_reads Fe.out; clear hb ho) | (clear T14; go_at_call 19; refine (impl_LockFree.calls k Ve ce x a1 a2 a3 g g2 w13 (Kd.S_reads' Fe.out).2.2 (Kd.S_reads' Fe.out).2.1 A4.out).mono ?_; rintro e w14 ⟨v_, rfl, ho, hb⟩; have Z14 := aM hb.size; clear Fe; have FGsa := aM (Kd.S_below FGsa.out hb); have FGgb := aM (Kd.S_below FGgb.out hb); have FGh := aM (bornS ho HB.out.size); have HB := aM (below_step HB.out hb); obtain ⟨VGh, cGh, rfl, _, _⟩ := Kd.S_reads FGh.out; clear hb ho) | (clear T15; go_at_call 11; refine (laws_eqLockS.calls k VGh cGh g VGsa cGsa s true w14 (Kd.S_reads' FGh.out).2.2 (Kd.S_reads' FGh.out).2.1 (Kd.S_reads' FGsa.out).2.2 (Kd.S_reads' FGsa.out).2.1 A5.out).mono ?_; rintro e w15 ⟨rfl, hb⟩; have Z15 := aM hb.size; have FGsa := aM (Kd.S_below FGsa.out hb); have FGgb := aM (Kd.S_below FGgb.out hb); have FGh := aM (Kd.S_below FGh.out hb); have HB := aM (below_step HB.out hb); clear hb) | (clear T16; go_at_call 17; refine ((by have c_ := laws_heldLockS.calls k VGgb cGgb gm 1 hh w15 (by have h_ := (Kd.S_reads' FGgb.out).2.2; exact h_) (by have h_ := (Kd.S_reads' FGgb.out); rw [← h_.1]; exact h_.2.1) A9.out; rw [← NGgb.out] at c_; exact c_ : Calls Try.prog 17 #[.slice VGgb g.length cGgb, .int .i64 1] w15 _)).mono ?_; rintro e w16 ⟨rfl, hd⟩; have hb := hd.below; have Z16 := aM hb.size; have FGsa := aM (Kd.S_below FGsa.out hb); have FGgb := aM (Kd.S_below FGgb.out hb); have FGh := aM (Kd.S_below FGh.out hb); have HB := aM (below_step HB.out hb); clear hb hd))
  all_goals go_ret
  all_goals exact ⟨rfl, HB.out⟩
/-- THE ONE PURE STATEMENT of laws_FnExactLockFree. -/
def laws_FnExactLockFree.Pure : Prop := ∀ (l0 : List (S41)) (a1 : Int) (a2 : Int) (a3 : Int), l0.length ≤ maxLen → (∀ x ∈ l0, ok41 x) → (Lit.int .i64 a1).wf = true → (Lit.int .i64 a2).wf = true → (Lit.int .i64 a3).wf = true → ∃ k, laws_FnExactLockFree.f k l0 a1 a2 a3 = some true
theorem laws_FnExactLockFree.walk (P : laws_FnExactLockFree.Pure) (A0 : Option Addr) (c0 : Nat) (l0 : List (S41)) (a1 : Int) (a2 : Int) (a3 : Int) (w : World) (hr0 : Kd.C k41 w A0 l0.length l0) (hc0 : l0.length ≤ c0) (hm0 : l0.length ≤ maxLen) (hg0 : ∀ x ∈ l0, ok41 x) (w1 : (Lit.int .i64 a1).wf = true) (w2 : (Lit.int .i64 a2).wf = true) (w3 : (Lit.int .i64 a3).wf = true) :
    Calls Try.prog 5 #[.slice A0 l0.length c0, .int .i64 a1, .int .i64 a2, .int .i64 a3] w fun e w' => e = .returned (.bool true) ∧ Below w.heap.size w w' := by
  obtain ⟨k, h⟩ := P l0 a1 a2 a3 hm0 hg0 w1 w2 w3
  refine (laws_FnExactLockFree.calls k A0 c0 l0 a1 a2 a3 true w hr0 hc0 rfl h).mono ?_
  rintro e w' ⟨rfl, hd⟩
  exact ⟨rfl, hd⟩

end Go.Proofs.Ythabcadkaocciaa.Print
