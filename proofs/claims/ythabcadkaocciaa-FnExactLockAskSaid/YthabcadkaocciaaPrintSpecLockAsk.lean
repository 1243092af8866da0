/- Go functions as plain Lean functions, and that the Go code answers just as these, wherever they answer. Conditions: those of each theorem. Written by a program of this session (wip/patch.py). -/
import Derived.Test.YthabcadkaocciaaPrint0
import Derived.Test.YthabcadkaocciaaPrintSlicesIndexIntInt
import Derived.Test.YthabcadkaocciaaPrintSpecChainOf
import Derived.Test.YthabcadkaocciaaPrintSpecL7Copy
import Derived.Test.YthabcadkaocciaaPrintSpecL7Waits
namespace Go.Proofs.Ythabcadkaocciaa.Print
open Go.RowKit Go.Proofs.Ythabcadkaocciaa.Base Go.Proofs.YthabcadkaocciaaW.PrintWords Go.Proofs.YthabcadkaocciaaW.PrintLast Go.Proofs.YthabcadkaocciaaW.PrintMore
attribute [local go_sem] max2_int min2_int max_two min_two max_three min_three max_four min_four   -- for this text's walks alone
set_option linter.unusedVariables false
set_option linter.unusedSimpArgs false

/-! ### spec_LockAsk: function 15 -/
def spec_LockAsk.j0 : Nat → List (S45) → Int → Int → List (S45) → Bool → Option ((List (S45)) × Int)
  | 0, _, _, _, _, _ => none
  | k + 1, x0, x1, x2, x8, x15 => if x15 = true then (some (x8, 2)) else (if 0 ≤ x1 then (if x1 < (x0.length : Int) then (if ((rd_T45 x0 x1).f0) = x2 then (some (x8, 3)) else (if ((rd_T45 x0 x1).f0) = 0 then (if x1 < (x8.length : Int) then (some ((x8.set (x1 : Int).toNat (⟨x2, (rd_T45 x8 x1).f1⟩ : S45)), 0)) else (none)) else ((spec_ChainOf.f k x0 ((rd_T45 x0 x1).f0)).bind fun t115 => ((spec_l7Has.f k t115 x2).bind fun t118 => (if t118 = true then (some (x8, 4)) else (if x1 < (x8.length : Int) then (if ((rd_T45 x8 x1).f1).length < 17592186044416 then (some ((x8.set (x1 : Int).toNat (⟨(rd_T45 x8 x1).f0, (((rd_T45 x8 x1).f1) ++ [x2])⟩ : S45)), 1)) else (none)) else (none))))))) else (none)) else (none))
def spec_LockAsk.f (k : Nat) (l0 : List (S45)) (a1 : Int) (a2 : Int) : Option ((List (S45)) × Int) := (spec_LocksOk.f k l0).bind fun t101 => (if t101 = true then ((spec_l7Copy.f k l0).bind fun t105 => ((spec_l1In.f a1 0 (wrap64 ((l0.length : Int) - 1))).bind fun t108 => (if t108 = true then ((spec_l1In.f a2 1 1000).bind fun t109 => (if t109 = true then ((spec_WaitAt.f k l0 a2).bind fun t110 => (spec_LockAsk.j0 k l0 a1 a2 t105 (decide (t110 ≥ 0)))) else (spec_LockAsk.j0 k l0 a1 a2 t105 true))) else (spec_LockAsk.j0 k l0 a1 a2 t105 true)))) else (some ((([] : List (S45))), 2)))
theorem spec_LockAsk.mono_l : ∀ k, (∀ y0 y1 y2 y3 y4, LeO (spec_LockAsk.j0 k y0 y1 y2 y3 y4) (spec_LockAsk.j0 (k + 1) y0 y1 y2 y3 y4))
  | 0 => fun _ _ _ _ _ r h => by simp [spec_LockAsk.j0] at h
  | k + 1 => by
    have ih0 := spec_LockAsk.mono_l k
    intro y0 y1 y2 y3 y4
    unfold spec_LockAsk.j0
    repeat' first
    | (with_reducible exact ih0 _ _ _ _ _)
    | (with_reducible exact spec_ChainOf.mono _ _ _)
    | (with_reducible exact spec_LocksOk.mono _ _)
    | (with_reducible exact spec_WaitAt.mono _ _ _)
    | (with_reducible exact spec_l7Copy.mono _ _)
    | (with_reducible exact spec_l7Has.mono _ _ _)
    | (with_reducible exact LeO.refl _)
    | (with_reducible exact LeO.none _)
    | (with_reducible refine LeO.ite ?_ ?_)
    | (with_reducible refine LeO.bind ?_ (fun _ => ?_))
    | exact ih0 _ _ _ _ _
    | exact spec_ChainOf.mono _ _ _
    | exact spec_LocksOk.mono _ _
    | exact spec_WaitAt.mono _ _ _
    | exact spec_l7Copy.mono _ _
    | exact spec_l7Has.mono _ _ _
    | exact LeO.none _
    | refine LeO.ite ?_ ?_
    | refine LeO.bind ?_ (fun _ => ?_)
theorem spec_LockAsk.mono : ∀ a0 a1 a2 k, LeO (spec_LockAsk.f k a0 a1 a2) (spec_LockAsk.f (k + 1) a0 a1 a2) := by
  intro a0 a1 a2 k
  have ih0 := spec_LockAsk.mono_l k
  unfold spec_LockAsk.f
  repeat' first
      | (with_reducible exact ih0 _ _ _ _ _)
      | (with_reducible exact spec_ChainOf.mono _ _ _)
      | (with_reducible exact spec_LocksOk.mono _ _)
      | (with_reducible exact spec_WaitAt.mono _ _ _)
      | (with_reducible exact spec_l7Copy.mono _ _)
      | (with_reducible exact spec_l7Has.mono _ _ _)
      | (with_reducible exact LeO.refl _)
      | (with_reducible exact LeO.none _)
      | (with_reducible refine LeO.ite ?_ ?_)
      | (with_reducible refine LeO.bind ?_ (fun _ => ?_))
      | exact ih0 _ _ _ _ _
      | exact spec_ChainOf.mono _ _ _
      | exact spec_LocksOk.mono _ _
      | exact spec_WaitAt.mono _ _ _
      | exact spec_l7Copy.mono _ _
      | exact spec_l7Has.mono _ _ _
      | exact LeO.none _
      | refine LeO.ite ?_ ?_
      | refine LeO.bind ?_ (fun _ => ?_)
set_option maxHeartbeats 8000000 in
set_option maxRecDepth 100000 in
theorem spec_LockAsk.calls (k : Nat) (A0 : Option Addr) (c0 : Nat) (l0 : List (S45)) (a1 : Int) (a2 : Int) (r1 : List (S45)) (r2 : Int) (w : World) (hr0 : Kd.C k45 w A0 l0.length l0) (hc0 : l0.length ≤ c0) (h : spec_LockAsk.f k l0 a1 a2 = some (r1, r2)) :
    Calls Try.prog 15 #[.slice A0 l0.length c0, .int .i64 a1, .int .i64 a2] w fun e w' => ∃ v0_ : Value, e = .returned (.tuple #[v0_, .int .i64 r2]) ∧ Kd.S k45 45 w' w.heap.size (fun _ => True) v0_ r1 ∧ Below w.heap.size w w' := by
  have HR0 := Aside0.mk hr0
  have HC0 := Aside0.mk hc0
  clear hr0 hc0
  have HB := aM (Below.refl w.heap.size w)
  have H : ((spec_LocksOk.f k l0).bind fun t101 => (if t101 = true then ((spec_l7Copy.f k l0).bind fun t105 => ((spec_l1In.f a1 0 (wrap64 ((l0.length : Int) - 1))).bind fun t108 => (if t108 = true then ((spec_l1In.f a2 1 1000).bind fun t109 => (if t109 = true then ((spec_WaitAt.f k l0 a2).bind fun t110 => (spec_LockAsk.j0 k l0 a1 a2 t105 (decide (t110 ≥ 0)))) else (spec_LockAsk.j0 k l0 a1 a2 t105 true))) else (spec_LockAsk.j0 k l0 a1 a2 t105 true)))) else (some ((([] : List (S45))), 2)))) = some (r1, r2) := h
  clear h
  replace H := Option.bind_eq_some_iff.mp H
  obtain ⟨t101, A40, H⟩ := H
  replace H : (if t101 = true then ((spec_l7Copy.f k l0).bind fun t105 => ((spec_l1In.f a1 0 (wrap64 ((l0.length : Int) - 1))).bind fun t108 => (if t108 = true then ((spec_l1In.f a2 1 1000).bind fun t109 => (if t109 = true then ((spec_WaitAt.f k l0 a2).bind fun t110 => (spec_LockAsk.j0 k l0 a1 a2 t105 (decide (t110 ≥ 0)))) else (spec_LockAsk.j0 k l0 a1 a2 t105 true))) else (spec_LockAsk.j0 k l0 a1 a2 t105 true)))) else (some ((([] : List (S45))), 2))) = some (r1, r2) := H
  have A4 := Aside0.mk A40
  clear A40
  by_cases c5 : t101 = true
  · subst c5
    have H1 : ((spec_l7Copy.f k l0).bind fun t105 => ((spec_l1In.f a1 0 (wrap64 ((l0.length : Int) - 1))).bind fun t108 => (if t108 = true then ((spec_l1In.f a2 1 1000).bind fun t109 => (if t109 = true then ((spec_WaitAt.f k l0 a2).bind fun t110 => (spec_LockAsk.j0 k l0 a1 a2 t105 (decide (t110 ≥ 0)))) else (spec_LockAsk.j0 k l0 a1 a2 t105 true))) else (spec_LockAsk.j0 k l0 a1 a2 t105 true)))) = some (r1, r2) := by rw [if_pos rfl] at H; exact H
    clear H
    have H := H1
    clear H1
    replace H := Option.bind_eq_some_iff.mp H
    obtain ⟨t105, A60, H⟩ := H
    replace H : ((spec_l1In.f a1 0 (wrap64 ((l0.length : Int) - 1))).bind fun t108 => (if t108 = true then ((spec_l1In.f a2 1 1000).bind fun t109 => (if t109 = true then ((spec_WaitAt.f k l0 a2).bind fun t110 => (spec_LockAsk.j0 k l0 a1 a2 t105 (decide (t110 ≥ 0)))) else (spec_LockAsk.j0 k l0 a1 a2 t105 true))) else (spec_LockAsk.j0 k l0 a1 a2 t105 true))) = some (r1, r2) := H
    have A6 := Aside0.mk A60
    clear A60
    have HC7 := Aside0.mk H
    clear H
    go_enter Try.func15, Try.ntmps15
    go_upto_region 4 with (first | ((with_reducible refine gate_callee (f := 21) rfl ?_); refine gL (some 10) Try.func21 #[.slice A0 l0.length c0] ?_; (with_reducible refine (spec_LocksOk.calls k _ _ l0 true _ ?side1 ?side2 A4.out).mono ?_); (case side1 => repeat (first | exact HR0.out | (with_reducible refine Kd.C_alloc ?_ _) | (with_reducible refine Kd.C_drewN ?_ _) | (with_reducible refine Kd.C_drew ?_))); (case side2 => exact HC0.out); rintro e w8 ⟨rfl, hb⟩; refine ⟨_, rfl, ?_⟩; have n0_ := aM (below_step (bq HB) hb); clear HB; have HB := n0_; clear n0_; (try clear hb); (try clear hb2); (try clear hk); (try clear hi)) | ((with_reducible refine gate_callee (f := 27) rfl ?_); refine gL (some 14) Try.func27 #[.slice A0 l0.length c0] ?_; (with_reducible refine (spec_l7Copy.calls k _ _ l0 t105 _ ?side1 ?side2 A6.out).mono ?_); (case side1 => repeat (first | exact (Kd.C_below HR0.out HB.out) | (with_reducible refine Kd.C_alloc ?_ _) | (with_reducible refine Kd.C_drewN ?_ _) | (with_reducible refine Kd.C_drew ?_))); (case side2 => exact HC0.out); rintro e w9 ⟨v106, rfl, ho0, hb⟩; refine ⟨_, rfl, ?_⟩; have n0_ := aM (Kd.S_lower ho0 (below_size (bq HB))); have n1_ := aM (below_step (bq HB) hb); clear HB; have HO107 := n0_; have HB := n1_; clear n0_ n1_; (try clear hb); (try clear hb2); (try clear hk); (try clear hi); (try clear ho0)))
    (try simp only [Act.put, tA, tB, tC])
    go_cut [15] (fun v15 wc => ∃ (kq : Nat) (x15_6 : Bool), v15 = .bool x15_6 ∧ Aside0 (spec_LockAsk.j0 kq l0 a1 a2 t105 x15_6 = some (r1, r2)) ∧ Aside0 (kq ≤ k) ∧ Aside0 (Kd.S k45 45 wc w.heap.size (fun _ => True) v106 t105) ∧ Aside0 (Below w.heap.size w wc))
    case first =>
      have H := HC7.out
      clear HC7
      replace H := Option.bind_eq_some_iff.mp H
      obtain ⟨t108, A100, H⟩ := H
      replace H : (if t108 = true then ((spec_l1In.f a2 1 1000).bind fun t109 => (if t109 = true then ((spec_WaitAt.f k l0 a2).bind fun t110 => (spec_LockAsk.j0 k l0 a1 a2 t105 (decide (t110 ≥ 0)))) else (spec_LockAsk.j0 k l0 a1 a2 t105 true))) else (spec_LockAsk.j0 k l0 a1 a2 t105 true)) = some (r1, r2) := H
      have A10 := Aside0.mk A100
      clear A100
      by_cases c11 : t108 = true
      · subst c11
        have H1 : ((spec_l1In.f a2 1 1000).bind fun t109 => (if t109 = true then ((spec_WaitAt.f k l0 a2).bind fun t110 => (spec_LockAsk.j0 k l0 a1 a2 t105 (decide (t110 ≥ 0)))) else (spec_LockAsk.j0 k l0 a1 a2 t105 true))) = some (r1, r2) := by rw [if_pos rfl] at H; exact H
        clear H
        have H := H1
        clear H1
        replace H := Option.bind_eq_some_iff.mp H
        obtain ⟨t109, A120, H⟩ := H
        replace H : (if t109 = true then ((spec_WaitAt.f k l0 a2).bind fun t110 => (spec_LockAsk.j0 k l0 a1 a2 t105 (decide (t110 ≥ 0)))) else (spec_LockAsk.j0 k l0 a1 a2 t105 true)) = some (r1, r2) := H
        have A12 := Aside0.mk A120
        clear A120
        by_cases c13 : t109 = true
        · subst c13
          have H1 : ((spec_WaitAt.f k l0 a2).bind fun t110 => (spec_LockAsk.j0 k l0 a1 a2 t105 (decide (t110 ≥ 0)))) = some (r1, r2) := by rw [if_pos rfl] at H; exact H
          clear H
          have H := H1
          clear H1
          replace H := Option.bind_eq_some_iff.mp H
          obtain ⟨t110, A140, H⟩ := H
          replace H : (spec_LockAsk.j0 k l0 a1 a2 t105 (decide (t110 ≥ 0))) = some (r1, r2) := H
          have A14 := Aside0.mk A140
          clear A140
          have H' := Aside0.mk H
          clear H
          go_wp2_with (first | ((with_reducible refine gate_callee (f := 28) rfl ?_); refine gL (some 20) Try.func28 #[.int .i64 a1, .int .i64 0, .int .i64 (wrap64 ((l0.length : Int) - 1))] ?_; (with_reducible refine (spec_l1In.calls a1 0 (wrap64 ((l0.length : Int) - 1)) true _ A10.out).mono ?_); rintro e w' ⟨rfl, ⟨nd, rfl⟩⟩; refine ⟨_, rfl, ?_⟩) | (go_at_call 28; (with_reducible refine (spec_l1In.calls a2 1 1000 true _ A12.out).mono ?_); rintro e w' ⟨rfl, ⟨nd, rfl⟩⟩) | (go_at_call 29; (with_reducible refine (spec_WaitAt.calls k _ _ l0 a2 t110 _ ?side1 ?side2 A14.out).mono ?_); (case side1 => repeat (first | exact (Kd.C_below HR0.out (bq HB)) | (with_reducible refine Kd.C_alloc ?_ _) | (with_reducible refine Kd.C_drewN ?_ _) | (with_reducible refine Kd.C_drew ?_))); (case side2 => exact HC0.out); rintro e w' ⟨rfl, ⟨nd, rfl⟩⟩))
          go_meet
          case rel => exact ⟨_, (decide (t110 ≥ 0)), (by first | rfl | (simp; done) | (simp [*]; done)), H', ⟨by first | omega | exact Nat.le_refl _⟩, ⟨by (with_reducible repeat (first | apply Kd.S_alloc | apply Kd.S_drewN | apply Kd.S_drew)); exact HO107.out⟩, ⟨bq HB⟩⟩
        replace c13 := Bool.eq_false_iff.mpr c13
        subst c13
        have H1 : (spec_LockAsk.j0 k l0 a1 a2 t105 true) = some (r1, r2) := by rw [if_neg (show ¬ (false = true) by decide)] at H; exact H
        clear H
        have H := H1
        clear H1
        have H' := Aside0.mk H
        clear H
        go_wp2_with (first | ((with_reducible refine gate_callee (f := 28) rfl ?_); refine gL (some 20) Try.func28 #[.int .i64 a1, .int .i64 0, .int .i64 (wrap64 ((l0.length : Int) - 1))] ?_; (with_reducible refine (spec_l1In.calls a1 0 (wrap64 ((l0.length : Int) - 1)) true _ A10.out).mono ?_); rintro e w' ⟨rfl, ⟨nd, rfl⟩⟩; refine ⟨_, rfl, ?_⟩) | (go_at_call 28; (with_reducible refine (spec_l1In.calls a2 1 1000 false _ A12.out).mono ?_); rintro e w' ⟨rfl, ⟨nd, rfl⟩⟩))
        go_meet
        case rel => exact ⟨_, (true), (by first | rfl | (simp; done) | (simp [*]; done)), H', ⟨by first | omega | exact Nat.le_refl _⟩, ⟨by (with_reducible repeat (first | apply Kd.S_alloc | apply Kd.S_drewN | apply Kd.S_drew)); exact HO107.out⟩, ⟨bq HB⟩⟩
      replace c11 := Bool.eq_false_iff.mpr c11
      subst c11
      have H1 : (spec_LockAsk.j0 k l0 a1 a2 t105 true) = some (r1, r2) := by rw [if_neg (show ¬ (false = true) by decide)] at H; exact H
      clear H
      have H := H1
      clear H1
      have H' := Aside0.mk H
      clear H
      go_wp2_with (first | ((with_reducible refine gate_callee (f := 28) rfl ?_); refine gL (some 20) Try.func28 #[.int .i64 a1, .int .i64 0, .int .i64 (wrap64 ((l0.length : Int) - 1))] ?_; (with_reducible refine (spec_l1In.calls a1 0 (wrap64 ((l0.length : Int) - 1)) false _ A10.out).mono ?_); rintro e w' ⟨rfl, ⟨nd, rfl⟩⟩; refine ⟨_, rfl, ?_⟩))
      go_meet
      case rel => exact ⟨_, (true), (by first | rfl | (simp; done) | (simp [*]; done)), H', ⟨by first | omega | exact Nat.le_refl _⟩, ⟨by (with_reducible repeat (first | apply Kd.S_alloc | apply Kd.S_drewN | apply Kd.S_drew)); exact HO107.out⟩, ⟨bq HB⟩⟩
    case rest =>
      clear HC7
      try clear c1
      try clear c2
      try clear p2
      try clear c5
      try clear p6
      try clear c11
      try clear c13
      obtain ⟨kq, x15_6, rfl, HA, HJ6, HO_8, HB⟩ := hcut
      cases kq with
      | zero => exact absurd HA.out (by simp [spec_LockAsk.j0])
      | succ kj6 =>
        have H := HA.out
        clear HA
        simp only [spec_LockAsk.j0] at H
        by_cases c15 : x15_6 = true
        · subst c15
          have H1 : (some (t105, 2)) = some (r1, r2) := by rw [if_pos rfl] at H; exact H
          clear H
          have H := H1
          clear H1
          simp only [Option.some.injEq, Prod.mk.injEq] at H
          obtain ⟨rfl, rfl⟩ := H
          go_wp2
          go_ret2
          exact ⟨_, by first | rfl | (simp <;> rfl) | (simp [*] <;> rfl), by (with_reducible repeat (first | apply Kd.S_alloc | apply Kd.S_drewN | apply Kd.S_drew)); exact HO_8.out, bq HB⟩
        replace c15 := Bool.eq_false_iff.mpr c15
        subst c15
        have H1 : (if 0 ≤ a1 then (if a1 < (l0.length : Int) then (if ((rd_T45 l0 a1).f0) = a2 then (some (t105, 3)) else (if ((rd_T45 l0 a1).f0) = 0 then (if a1 < (t105.length : Int) then (some ((t105.set (a1 : Int).toNat (⟨a2, (rd_T45 t105 a1).f1⟩ : S45)), 0)) else (none)) else ((spec_ChainOf.f kj6 l0 ((rd_T45 l0 a1).f0)).bind fun t115 => ((spec_l7Has.f kj6 t115 a2).bind fun t118 => (if t118 = true then (some (t105, 4)) else (if a1 < (t105.length : Int) then (if ((rd_T45 t105 a1).f1).length < 17592186044416 then (some ((t105.set (a1 : Int).toNat (⟨(rd_T45 t105 a1).f0, (((rd_T45 t105 a1).f1) ++ [a2])⟩ : S45)), 1)) else (none)) else (none))))))) else (none)) else (none)) = some (r1, r2) := by rw [if_neg (show ¬ (false = true) by decide)] at H; exact H
        clear H
        have H := H1
        clear H1
        by_cases c16 : 0 ≤ a1
        · rw [if_pos c16] at H
          have c16b0 : decide (0 ≤ a1) = true := decide_eq_true c16
          clear c16
          by_cases c17 : a1 < (l0.length : Int)
          · rw [if_pos c17] at H
            have c17b0 : decide (a1 < (l0.length : Int)) = true := decide_eq_true c17
            clear c17
            by_cases c18 : ((rd_T45 l0 a1).f0) = a2
            · rw [if_pos c18] at H
              have c18b0 : (((rd_T45 l0 a1).f0) == a2) = true := beq_iff_eq.mpr c18
              have c18b1 : (((rd_T45 l0 a1).f0) != a2) = false := bne_eq_false_iff_eq.mpr c18
              clear c18
              simp only [Option.some.injEq, Prod.mk.injEq] at H
              obtain ⟨rfl, rfl⟩ := H
              have p111 : 0 ≤ (a1 : Int) := of_decide_eq_true (by first | (with_reducible assumption) | assumption)
              have q111 : a1 < (l0.length : Int) := of_decide_eq_true (by first | (with_reducible assumption) | assumption)
              obtain ⟨ad111, A111_1, c111_1, e111, hx111_0, hx111_1, hl111_1, hi111_1⟩ := at_T45 HR0.out a1 p111 q111
              cases e111
              replace hx111_0 := (HB.out.cell (World.block_lt_of_cell? w _ hx111_0)).trans hx111_0
              replace hx111_1 := (HB.out.cell (World.block_lt_of_cell? w _ hx111_1)).trans hx111_1
              have HR111_1 := Aside0.mk hi111_1
              have HC111_1 := Aside0.mk hl111_1
              clear hi111_1 hl111_1
              replace p111 := eq_true p111
              replace q111 := eq_true q111
              go_wp2
              go_ret2
              exact ⟨_, by first | rfl | (simp <;> rfl) | (simp [*] <;> rfl), by (with_reducible repeat (first | apply Kd.S_alloc | apply Kd.S_drewN | apply Kd.S_drew)); exact HO_8.out, bq HB⟩
            rw [if_neg c18] at H
            have c18b0 : (((rd_T45 l0 a1).f0) == a2) = false := beq_eq_false_iff_ne.mpr c18
            have c18b1 : (((rd_T45 l0 a1).f0) != a2) = true := bne_iff_ne.mpr c18
            by_cases c19 : ((rd_T45 l0 a1).f0) = 0
            · rw [if_pos c19] at H
              have c19b0 : (((rd_T45 l0 a1).f0) == 0) = true := beq_iff_eq.mpr c19
              have c19b1 : (((rd_T45 l0 a1).f0) != 0) = false := bne_eq_false_iff_eq.mpr c19
              clear c19
              by_cases c20 : a1 < (t105.length : Int)
              · rw [if_pos c20] at H
                have c20b0 : decide (a1 < (t105.length : Int)) = true := decide_eq_true c20
                clear c20
                obtain ⟨y113, hy113⟩ : ∃ y_ : List (S45), y_ = (t105.set (a1 : Int).toNat (⟨a2, (rd_T45 t105 a1).f1⟩ : S45)) := ⟨_, rfl⟩
                replace H : (some (y113, 0)) = some (r1, r2) := by first | (rw [hy113]; with_reducible exact H) | (have H2_ := (Option.bind_some _ _).symm.trans H; rw [hy113]; with_reducible exact H2_) | (have H2_ := (Option.bind_some _ _).symm.trans H; with_reducible exact H2_) | with_reducible exact H | (rw [hy113]; exact H) | exact H
                have Ny113 := Aside0.mk hy113
                clear hy113
                simp only [Option.some.injEq, Prod.mk.injEq] at H
                obtain ⟨rfl, rfl⟩ := H
                have p111 : 0 ≤ (a1 : Int) := of_decide_eq_true (by first | (with_reducible assumption) | assumption)
                have q111 : a1 < (l0.length : Int) := of_decide_eq_true (by first | (with_reducible assumption) | assumption)
                obtain ⟨ad111, A111_1, c111_1, e111, hx111_0, hx111_1, hl111_1, hi111_1⟩ := at_T45 HR0.out a1 p111 q111
                cases e111
                replace hx111_0 := (HB.out.cell (World.block_lt_of_cell? w _ hx111_0)).trans hx111_0
                replace hx111_1 := (HB.out.cell (World.block_lt_of_cell? w _ hx111_1)).trans hx111_1
                have HR111_1 := Aside0.mk hi111_1
                have HC111_1 := Aside0.mk hl111_1
                clear hi111_1 hl111_1
                replace p111 := eq_true p111
                replace q111 := eq_true q111
                have p112 : 0 ≤ (a1 : Int) := of_decide_eq_true (by first | (with_reducible assumption) | assumption)
                have q112 : a1 < (l0.length : Int) := of_decide_eq_true (by first | (with_reducible assumption) | assumption)
                obtain ⟨ad112, A112_1, c112_1, e112, hx112_0, hx112_1, hl112_1, hi112_1⟩ := at_T45 HR0.out a1 p112 q112
                obtain rfl : ad111 = ad112 := (by injection e112)
                replace hx112_0 := (HB.out.cell (World.block_lt_of_cell? w _ hx112_0)).trans hx112_0
                replace hx112_1 := (HB.out.cell (World.block_lt_of_cell? w _ hx112_1)).trans hx112_1
                have HR112_1 := Aside0.mk hi112_1
                have HC112_1 := Aside0.mk hl112_1
                clear hi112_1 hl112_1
                replace p112 := eq_true p112
                replace q112 := eq_true q112
                have ea_ := Option.some.inj (hx111_1.symm.trans hx112_1)
                injection ea_ with ea_ en_ ec_
                subst ea_
                subst ec_
                clear en_
                have p21 : 0 ≤ (a1 : Int) := of_decide_eq_true (by first | (with_reducible assumption) | assumption)
                have q21 : (a1 : Int) < ((t105.length : Int) : Int) := of_decide_eq_true (by first | (with_reducible assumption) | assumption)
                obtain ⟨go21, co21, eo21, gb21, gl21, cl21, HG21⟩ := Kd.S_form HO_8.out (by omega)
                (first | cases eo21 | (injection eo21 with ea_ en_ ec_; (first | subst ea_ | (injection ea_ with ea_; subst ea_)); subst ec_; clear en_))
                have GB21 := Aside0.mk gb21
                have GG21 := Aside0.mk HG21
                clear gb21 gl21 HG21
                obtain ⟨_, ce21, hcl21, hM21, hcc21, hfr21, _, _⟩ := Kd.S_elem HO_8.out z45 (a1 : Int) p21 q21
                obtain ⟨ve21_1, rfl, ge21_1⟩ := k45_openM hM21
                have hx21_0 : wc.cell? ⟨go21, (a1 : Int).toNat * 2, none⟩ = some (.int .i64 ((rd_T45 t105 a1).f0)) := hcc21 0 _ rfl
                have hx21_1 : wc.cell? ⟨go21, (a1 : Int).toNat * 2 + 1, none⟩ = some (ve21_1) := hcc21 1 _ rfl
                have hf21_0 : wc.frozen? ⟨go21, (a1 : Int).toNat * 2, none⟩ = false := hfr21 0
                have hf21_1 : wc.frozen? ⟨go21, (a1 : Int).toNat * 2 + 1, none⟩ = false := hfr21 1
                clear hcl21 hcc21 hfr21 hM21
                replace p21 := eq_true p21
                replace q21 := eq_true q21
                have HX22 := aM (show Kd.S k45 45 wc w.heap.size (fun k_ => ((fun _ => True)) k_ ∧ ¬ ((fun _ => False)) k_) (.slice (some ⟨go21, 0, none⟩) t105.length co21) t105 from (by (with_reducible repeat (first | apply Kd.S_alloc | apply Kd.S_drewN | apply Kd.S_drew)); exact Kd.S_mono HO_8.out (fun k_ hk => ⟨trivial, fun e_ => e_⟩)))
                obtain ⟨oki22, ce22, hcl22, hM22, hcc22, hfr22, hoki22, hH22⟩ := Kd.S_elem HX22.out z45 (a1 : Int) (of_decide_eq_true (by first | (with_reducible assumption) | assumption)) (by have h_ : (a1 : Int) < ((t105.length : Int) : Int) := of_decide_eq_true (by first | (with_reducible assumption) | assumption); first | exact h_ | (have e_ := (Kd.S_reads' HO_8.out).1; omega) | simpa using h_)
                obtain ⟨ve22_1, rfl, ge22_1⟩ := k45_openM hM22
                have HP22 := Kd.S_seg hH22 (of_decide_eq_true (by first | (with_reducible assumption) | assumption)) (by have h_ : (a1 : Int) < ((t105.length : Int) : Int) := of_decide_eq_true (by first | (with_reducible assumption) | assumption); first | exact h_ | (have e_ := (Kd.S_reads' HO_8.out).1; omega) | simpa using h_) (seg := [.int .i64 a2]) (j := 0) (show 1 ≤ 2 from by decide) (x' := (⟨a2, (rd_T45 t105 a1).f1⟩ : S45)) (k45_mkM _ _ _ (⟨a2, (rd_T45 t105 a1).f1⟩ : S45) (Kd.R_mono ge22_1 (fun _ h_ => Or.inl h_))) (fun _ hk => hk) (fun k_ hk_ => hk_.elim)
                have hx22_0 := hcc22 0 _ rfl
                (try simp only [show (k45).sz = 2 from rfl, Nat.mul_one, Nat.add_zero] at hx22_0)
                have hf22_0 := hfr22 0
                (try simp only [show (k45).sz = 2 from rfl, Nat.mul_one, Nat.add_zero] at hf22_0)
                clear hcl22 hcc22 hfr22 hM22 hoki22 hH22
                go_wp2_with (first | ((with_reducible refine gate_store (t := 3) (p := 54) rfl ?_); refine store_event (t := 3) (p := 54) (v := ?vo_w23) (w1 := (wc.setCell ⟨go21, (a1 : Int).toNat * 2, none⟩ (.int .i64 a2))) ?hg ?ho ?hn ?hr ?_; (case ho => rfl); (case hg => rfl); (case hn => rfl); (case hr => first | (go_simp; done) | (go_simp; rfl)); intro w23 hw; have hg : wc.grownBy w23 (some go21) := (by rw [hw]; exact HP22.2); have hp_ : Kd.S k45 45 w23 w.heap.size (fun _ => True) (.slice (some ⟨go21, 0, none⟩) t105.length co21) y113 := (by rw [hw, Ny113.out]; exact HP22.1); clear HP22; have n0_ := aM (hp_); have n1_ := aM ((by rw [hw]; exact below_set (HB.out) GB21.out : Below w.heap.size w w23)); clear HO_8 HB; have HO_8 := n0_; have HB := n1_; clear n0_ n1_; clear hg hw hp_))
                go_ret2
                exact ⟨_, by first | rfl | (simp <;> rfl) | (simp [*] <;> rfl), by (with_reducible repeat (first | apply Kd.S_alloc | apply Kd.S_drewN | apply Kd.S_drew)); exact HO_8.out, bq HB⟩
              rw [if_neg c20] at H
              exact absurd H (by simp)
            rw [if_neg c19] at H
            have c19b0 : (((rd_T45 l0 a1).f0) == 0) = false := beq_eq_false_iff_ne.mpr c19
            have c19b1 : (((rd_T45 l0 a1).f0) != 0) = true := bne_iff_ne.mpr c19
            replace H := Option.bind_eq_some_iff.mp H
            obtain ⟨t115, A240, H⟩ := H
            replace H : ((spec_l7Has.f kj6 t115 a2).bind fun t118 => (if t118 = true then (some (t105, 4)) else (if a1 < (t105.length : Int) then (if ((rd_T45 t105 a1).f1).length < 17592186044416 then (some ((t105.set (a1 : Int).toNat (⟨(rd_T45 t105 a1).f0, (((rd_T45 t105 a1).f1) ++ [a2])⟩ : S45)), 1)) else (none)) else (none)))) = some (r1, r2) := H
            have A24 := Aside0.mk A240
            clear A240
            replace H := Option.bind_eq_some_iff.mp H
            obtain ⟨t118, A250, H⟩ := H
            replace H : (if t118 = true then (some (t105, 4)) else (if a1 < (t105.length : Int) then (if ((rd_T45 t105 a1).f1).length < 17592186044416 then (some ((t105.set (a1 : Int).toNat (⟨(rd_T45 t105 a1).f0, (((rd_T45 t105 a1).f1) ++ [a2])⟩ : S45)), 1)) else (none)) else (none))) = some (r1, r2) := H
            have A25 := Aside0.mk A250
            clear A250
            by_cases c26 : t118 = true
            · subst c26
              have H1 : (some (t105, 4)) = some (r1, r2) := by rw [if_pos rfl] at H; exact H
              clear H
              have H := H1
              clear H1
              simp only [Option.some.injEq, Prod.mk.injEq] at H
              obtain ⟨rfl, rfl⟩ := H
              have p111 : 0 ≤ (a1 : Int) := of_decide_eq_true (by first | (with_reducible assumption) | assumption)
              have q111 : a1 < (l0.length : Int) := of_decide_eq_true (by first | (with_reducible assumption) | assumption)
              obtain ⟨ad111, A111_1, c111_1, e111, hx111_0, hx111_1, hl111_1, hi111_1⟩ := at_T45 HR0.out a1 p111 q111
              cases e111
              replace hx111_0 := (HB.out.cell (World.block_lt_of_cell? w _ hx111_0)).trans hx111_0
              replace hx111_1 := (HB.out.cell (World.block_lt_of_cell? w _ hx111_1)).trans hx111_1
              have HR111_1 := Aside0.mk hi111_1
              have HC111_1 := Aside0.mk hl111_1
              clear hi111_1 hl111_1
              replace p111 := eq_true p111
              replace q111 := eq_true q111
              have p112 : 0 ≤ (a1 : Int) := of_decide_eq_true (by first | (with_reducible assumption) | assumption)
              have q112 : a1 < (l0.length : Int) := of_decide_eq_true (by first | (with_reducible assumption) | assumption)
              obtain ⟨ad112, A112_1, c112_1, e112, hx112_0, hx112_1, hl112_1, hi112_1⟩ := at_T45 HR0.out a1 p112 q112
              obtain rfl : ad111 = ad112 := (by injection e112)
              replace hx112_0 := (HB.out.cell (World.block_lt_of_cell? w _ hx112_0)).trans hx112_0
              replace hx112_1 := (HB.out.cell (World.block_lt_of_cell? w _ hx112_1)).trans hx112_1
              have HR112_1 := Aside0.mk hi112_1
              have HC112_1 := Aside0.mk hl112_1
              clear hi112_1 hl112_1
              replace p112 := eq_true p112
              replace q112 := eq_true q112
              have ea_ := Option.some.inj (hx111_1.symm.trans hx112_1)
              injection ea_ with ea_ en_ ec_
              subst ea_
              subst ec_
              clear en_
              have p114 : 0 ≤ (a1 : Int) := of_decide_eq_true (by first | (with_reducible assumption) | assumption)
              have q114 : a1 < (l0.length : Int) := of_decide_eq_true (by first | (with_reducible assumption) | assumption)
              obtain ⟨ad114, A114_1, c114_1, e114, hx114_0, hx114_1, hl114_1, hi114_1⟩ := at_T45 HR0.out a1 p114 q114
              obtain rfl : ad111 = ad114 := (by injection e114)
              replace hx114_0 := (HB.out.cell (World.block_lt_of_cell? w _ hx114_0)).trans hx114_0
              replace hx114_1 := (HB.out.cell (World.block_lt_of_cell? w _ hx114_1)).trans hx114_1
              have HR114_1 := Aside0.mk hi114_1
              have HC114_1 := Aside0.mk hl114_1
              clear hi114_1 hl114_1
              replace p114 := eq_true p114
              replace q114 := eq_true q114
              have ea_ := Option.some.inj (hx111_1.symm.trans hx114_1)
              injection ea_ with ea_ en_ ec_
              subst ea_
              subst ec_
              clear en_
              go_wp2_with (first | ((with_reducible refine gate_callee (f := 7) rfl ?_); refine gL (some 63) Try.func7 #[.slice (some ad111) l0.length c0, .int .i64 ((rd_T45 l0 a1).f0)] ?_; (with_reducible refine (spec_ChainOf.calls kj6 _ _ l0 ((rd_T45 l0 a1).f0) t115 _ ?side1 ?side2 A24.out).mono ?_); (case side1 => repeat (first | exact (Kd.C_below HR0.out HB.out) | (with_reducible refine Kd.C_alloc ?_ _) | (with_reducible refine Kd.C_drewN ?_ _) | (with_reducible refine Kd.C_drew ?_))); (case side2 => exact HC0.out); rintro e w27 ⟨v116, rfl, ho0, hb⟩; refine ⟨_, rfl, ?_⟩; have n0_ := aM (Kd.S_elder' (sq HO_8) (Kd.R_base ho0) hb); have n1_ := aM (Kd.R_lower ho0 (below_size (bq HB))); have n2_ := aM (below_step (bq HB) hb); clear HO_8 HB; have HO_8 := n0_; have HO117 := n1_; have HB := n2_; clear n0_ n1_ n2_; (try clear hb); (try clear hb2); (try clear hk); (try clear hi); (try clear ho0); obtain ⟨Ao28, co28, eo28⟩ := Kd.R_slice HO117.out; subst eo28) | ((with_reducible refine gate_callee (f := 30) rfl ?_); refine gL (some 65) Try.func30 #[.slice Ao28 t115.length co28, .int .i64 a2] ?_; (with_reducible refine (spec_l7Has.calls kj6 _ _ t115 a2 true _ ?side1 ?side2 A25.out).mono ?_); (case side1 => repeat (first | exact (Kd.R_reads' HO117.out).2.2 | (with_reducible refine Kd.C_alloc ?_ _) | (with_reducible refine Kd.C_drewN ?_ _) | (with_reducible refine Kd.C_drew ?_))); (case side2 => exact (Kd.R_reads' HO117.out).2.1); rintro e w' ⟨rfl, ⟨nd, rfl⟩⟩; refine ⟨_, rfl, ?_⟩))
              go_ret2
              exact ⟨_, by first | rfl | (simp <;> rfl) | (simp [*] <;> rfl), by (with_reducible repeat (first | apply Kd.S_alloc | apply Kd.S_drewN | apply Kd.S_drew)); exact Kd.S_mono HO_8.out (fun _ hk => trivial), bq HB⟩
            replace c26 := Bool.eq_false_iff.mpr c26
            subst c26
            have H1 : (if a1 < (t105.length : Int) then (if ((rd_T45 t105 a1).f1).length < 17592186044416 then (some ((t105.set (a1 : Int).toNat (⟨(rd_T45 t105 a1).f0, (((rd_T45 t105 a1).f1) ++ [a2])⟩ : S45)), 1)) else (none)) else (none)) = some (r1, r2) := by rw [if_neg (show ¬ (false = true) by decide)] at H; exact H
            clear H
            have H := H1
            clear H1
            by_cases c29 : a1 < (t105.length : Int)
            · rw [if_pos c29] at H
              have c29b0 : decide (a1 < (t105.length : Int)) = true := decide_eq_true c29
              clear c29
              by_cases c30 : ((rd_T45 t105 a1).f1).length < 17592186044416
              · rw [if_pos c30] at H
                have LMc30 := Aside0.mk c30
                clear c30
                obtain ⟨y120, hy120⟩ : ∃ y_ : List Int, y_ = (((rd_T45 t105 a1).f1) ++ [a2]) := ⟨_, rfl⟩
                replace H : (some ((t105.set (a1 : Int).toNat (⟨(rd_T45 t105 a1).f0, y120⟩ : S45)), 1)) = some (r1, r2) := by first | (rw [hy120]; with_reducible exact H) | (have H2_ := (Option.bind_some _ _).symm.trans H; rw [hy120]; with_reducible exact H2_) | (have H2_ := (Option.bind_some _ _).symm.trans H; with_reducible exact H2_) | with_reducible exact H | (rw [hy120]; exact H) | exact H
                have Ny120 := Aside0.mk hy120
                clear hy120
                obtain ⟨y123, hy123⟩ : ∃ y_ : List (S45), y_ = (t105.set (a1 : Int).toNat (⟨(rd_T45 t105 a1).f0, y120⟩ : S45)) := ⟨_, rfl⟩
                replace H : (some (y123, 1)) = some (r1, r2) := by first | (rw [hy123]; with_reducible exact H) | (have H2_ := (Option.bind_some _ _).symm.trans H; rw [hy123]; with_reducible exact H2_) | (have H2_ := (Option.bind_some _ _).symm.trans H; with_reducible exact H2_) | with_reducible exact H | (rw [hy123]; exact H) | exact H
                have Ny123 := Aside0.mk hy123
                clear hy123
                simp only [Option.some.injEq, Prod.mk.injEq] at H
                obtain ⟨rfl, rfl⟩ := H
                have p111 : 0 ≤ (a1 : Int) := of_decide_eq_true (by first | (with_reducible assumption) | assumption)
                have q111 : a1 < (l0.length : Int) := of_decide_eq_true (by first | (with_reducible assumption) | assumption)
                obtain ⟨ad111, A111_1, c111_1, e111, hx111_0, hx111_1, hl111_1, hi111_1⟩ := at_T45 HR0.out a1 p111 q111
                cases e111
                replace hx111_0 := (HB.out.cell (World.block_lt_of_cell? w _ hx111_0)).trans hx111_0
                replace hx111_1 := (HB.out.cell (World.block_lt_of_cell? w _ hx111_1)).trans hx111_1
                have HR111_1 := Aside0.mk hi111_1
                have HC111_1 := Aside0.mk hl111_1
                clear hi111_1 hl111_1
                replace p111 := eq_true p111
                replace q111 := eq_true q111
                have p112 : 0 ≤ (a1 : Int) := of_decide_eq_true (by first | (with_reducible assumption) | assumption)
                have q112 : a1 < (l0.length : Int) := of_decide_eq_true (by first | (with_reducible assumption) | assumption)
                obtain ⟨ad112, A112_1, c112_1, e112, hx112_0, hx112_1, hl112_1, hi112_1⟩ := at_T45 HR0.out a1 p112 q112
                obtain rfl : ad111 = ad112 := (by injection e112)
                replace hx112_0 := (HB.out.cell (World.block_lt_of_cell? w _ hx112_0)).trans hx112_0
                replace hx112_1 := (HB.out.cell (World.block_lt_of_cell? w _ hx112_1)).trans hx112_1
                have HR112_1 := Aside0.mk hi112_1
                have HC112_1 := Aside0.mk hl112_1
                clear hi112_1 hl112_1
                replace p112 := eq_true p112
                replace q112 := eq_true q112
                have ea_ := Option.some.inj (hx111_1.symm.trans hx112_1)
                injection ea_ with ea_ en_ ec_
                subst ea_
                subst ec_
                clear en_
                have p114 : 0 ≤ (a1 : Int) := of_decide_eq_true (by first | (with_reducible assumption) | assumption)
                have q114 : a1 < (l0.length : Int) := of_decide_eq_true (by first | (with_reducible assumption) | assumption)
                obtain ⟨ad114, A114_1, c114_1, e114, hx114_0, hx114_1, hl114_1, hi114_1⟩ := at_T45 HR0.out a1 p114 q114
                obtain rfl : ad111 = ad114 := (by injection e114)
                replace hx114_0 := (HB.out.cell (World.block_lt_of_cell? w _ hx114_0)).trans hx114_0
                replace hx114_1 := (HB.out.cell (World.block_lt_of_cell? w _ hx114_1)).trans hx114_1
                have HR114_1 := Aside0.mk hi114_1
                have HC114_1 := Aside0.mk hl114_1
                clear hi114_1 hl114_1
                replace p114 := eq_true p114
                replace q114 := eq_true q114
                have ea_ := Option.some.inj (hx111_1.symm.trans hx114_1)
                injection ea_ with ea_ en_ ec_
                subst ea_
                subst ec_
                clear en_
                go_wp2_with (first | ((with_reducible refine gate_callee (f := 7) rfl ?_); refine gL (some 63) Try.func7 #[.slice (some ad111) l0.length c0, .int .i64 ((rd_T45 l0 a1).f0)] ?_; (with_reducible refine (spec_ChainOf.calls kj6 _ _ l0 ((rd_T45 l0 a1).f0) t115 _ ?side1 ?side2 A24.out).mono ?_); (case side1 => repeat (first | exact (Kd.C_below HR0.out HB.out) | (with_reducible refine Kd.C_alloc ?_ _) | (with_reducible refine Kd.C_drewN ?_ _) | (with_reducible refine Kd.C_drew ?_))); (case side2 => exact HC0.out); rintro e w32 ⟨v116, rfl, ho0, hb⟩; refine ⟨_, rfl, ?_⟩; have n0_ := aM (Kd.S_elder' (sq HO_8) (Kd.R_base ho0) hb); have n1_ := aM (Kd.R_lower ho0 (below_size (bq HB))); have n2_ := aM (below_step (bq HB) hb); clear HO_8 HB; have HO_8 := n0_; have HO117 := n1_; have HB := n2_; clear n0_ n1_ n2_; (try clear hb); (try clear hb2); (try clear hk); (try clear hi); (try clear ho0); obtain ⟨Ao33, co33, eo33⟩ := Kd.R_slice HO117.out; subst eo33) | ((with_reducible refine gate_callee (f := 30) rfl ?_); refine gL (some 65) Try.func30 #[.slice Ao33 t115.length co33, .int .i64 a2] ?_; (with_reducible refine (spec_l7Has.calls kj6 _ _ t115 a2 false _ ?side1 ?side2 A25.out).mono ?_); (case side1 => repeat (first | exact (Kd.R_reads' HO117.out).2.2 | (with_reducible refine Kd.C_alloc ?_ _) | (with_reducible refine Kd.C_drewN ?_ _) | (with_reducible refine Kd.C_drew ?_))); (case side2 => exact (Kd.R_reads' HO117.out).2.1); rintro e w' ⟨rfl, ⟨nd, rfl⟩⟩; refine ⟨_, rfl, ?_⟩; (try (rw [drewN_self w32]; generalize hq_ : World.drewN w32 _ = w32; have n0_ : Aside0 (Kd.R (Kd.int .i64) 3 w32 w.heap.size (fun _ => True) (.slice Ao33 t115.length co33) t115) := ⟨by rw [← hq_]; exact (rq HO117)⟩; have n1_ : Aside0 (Kd.S k45 45 w32 w.heap.size (fun k_ => some k_ ≠ (.slice Ao33 t115.length co33 : Value).ownBlock) v106 t105) := ⟨by rw [← hq_]; exact (by (with_reducible repeat (first | apply Kd.S_alloc | apply Kd.S_drewN | apply Kd.S_drew)); exact Kd.S_mono HO_8.out (fun _ hk => hk.2))⟩; have n2_ : Aside0 (Below w.heap.size w w32) := ⟨by rw [← hq_]; exact (bq HB)⟩; clear HO117 HO_8 HB hq_; have HO117 := n0_; have HO_8 := n1_; have HB := n2_; clear n0_ n1_ n2_)); obtain ⟨Ao34, co34, eo34⟩ := Kd.S_slice HO_8.out; subst eo34; have p119 : 0 ≤ (a1 : Int) := of_decide_eq_true (by first | (with_reducible assumption) | assumption); have q119 : a1 < (t105.length : Int) := of_decide_eq_true (by first | (with_reducible assumption) | assumption); obtain ⟨ad119, A119_1, c119_1, e119, hx119_0, hx119_1, hl119_1, hi119_1⟩ := at_T45 (Kd.S_reads' HO_8.out).2.2 a1 p119 q119; cases e119; obtain ⟨ce119, hce119, hMe119, hcc119⟩ := Kd.S_get HO_8.out z45 a1 p119 (by first | exact q119 | exact of_decide_eq_true (by first | (with_reducible assumption) | assumption) | (have e_ := (Kd.S_reads' HO_8.out).1; omega)); obtain ⟨ve119_1, rfl, ge119_1⟩ := k45_openM hMe119; have hv119_1 := hcc119 1 _ rfl; rw [add_field _ _ 1 (by omega)] at hv119_1; replace hv119_1 := Option.some.inj (hv119_1.symm.trans hx119_1); rw [hv119_1] at ge119_1; have HL119_1 := aM (show Kd.R (Kd.int .i64) 3 _ _ _ _ ((rd_T45 t105 a1).f1) from ge119_1); clear hv119_1 ge119_1; have HX119_1 := Aside0.mk hx119_1; clear hcc119 hce119; have HR119_1 := Aside0.mk hi119_1; have HC119_1 := Aside0.mk hl119_1; clear hi119_1 hl119_1; replace p119 := eq_true p119; replace q119 := eq_true q119; obtain ⟨go35, co35, eo35, gb35, gl35, cl35, HG35⟩ := Kd.S_form HO_8.out (by have h_ : (a1 : Int) < ((t105.length : Int) : Int) := of_decide_eq_true (by first | (with_reducible assumption) | assumption); have h2_ : 0 ≤ (a1 : Int) := (of_decide_eq_true (by first | (with_reducible assumption) | assumption)); omega); (first | cases eo35 | (injection eo35 with ea_ en_ ec_; (first | subst ea_ | (injection ea_ with ea_; subst ea_)); subst ec_; clear en_)); have GB35 := Aside0.mk gb35; have GG35 := Aside0.mk HG35; clear gb35 gl35 HG35; (first | simp only [add_plain] at hx119_0 | skip); (first | simp only [add_plain] at hx119_1 | skip); obtain ⟨oki35, ce35, hcl35, hM35, hcc35, _, _, hH35⟩ := Kd.S_elem HO_8.out z45 (a1 : Int) (of_decide_eq_true (by first | (with_reducible assumption) | assumption)) (by have h_ : (a1 : Int) < ((t105.length : Int) : Int) := of_decide_eq_true (by first | (with_reducible assumption) | assumption); first | exact h_ | (have e_ := (Kd.S_reads' HO_8.out).1; omega) | simpa using h_); obtain ⟨ve35_1, rfl, ge35_1⟩ := k45_openM hM35; have hv35 := hcc35 1 _ rfl; have hX35 := HX119_1.out; (try simp only [add_plain] at hX35); (try simp only [Nat.add_zero] at hv35); replace hv35 := Option.some.inj (hv35.symm.trans hX35); subst hv35; clear hX35 hcc35 hcl35; have UU35 := aM (show Kd.R (Kd.int .i64) 3 _ w.heap.size oki35 (.slice A119_1 ((rd_T45 t105 a1).f1).length c119_1) ((rd_T45 t105 a1).f1) from ge35_1); have HH35 := Aside0.mk hH35; have HN35 := aM (Kd.S_reads' HO_8.out).1; clear hH35 ge35_1) | ((with_reducible refine gate_builtin (b := .append) (xs := #[.tmp 73, .tmp 75]) rfl ?_); at_builtin; refine Kd.R_append (Kd.int .i64) (w0 := w) w.heap.size rfl (.tmp 73) (.tmp 75) 24 3 (.int .i64 0) 8 rfl Try.underlying24 info3 rfl (by decide) (by omega) (.slice A119_1 ((rd_T45 t105 a1).f1).length c119_1) ((rd_T45 t105 a1).f1) a2 [.int .i64 a2] (fun k_ => oki35 k_ ∨ ((fun k_ => some k_ ≠ (.slice Ao33 t115.length co33 : Value).ownBlock)) k_ ∧ w32.heap.size ≤ k_) (fun _ => False) rfl rfl ?aP (fun _ hk => hk.elim) ?aF ?aO ?aB ?aS ?aL ?_; (case aP => exact rfl); (case aB => exact (bq HB)); (case aF => exact (fun k_ hk => .inr ⟨Kd.fresh' (Kd.R_lt (rq HO117)) k_ hk, hk⟩)); (case aO => exact (by (with_reducible repeat (first | apply Kd.R_alloc | apply Kd.R_drewN | apply Kd.R_drew)); exact Kd.R_mono UU35.out (fun _ hk => .inl hk))); (case aS => exact (below_size (bq HB))); (case aL => have := LMc30.out; omega); intro v121 w36 ho hb hg hat; rw [← Ny120.out] at ho; have n0_ := aM (Kd.R_grown2 (rq HO117) rfl hg (fun k_ e_ => (HL119_1.out.1 k_ e_).1)); have n1_ := aM (hb); have n2_ := aM (Kd.H_grown (Kd.H_widen (by repeat (first | exact HH35.out | refine Kd.H_alloc ?_ _ | refine Kd.H_drewN ?_ _ | refine Kd.H_drew ?_))) hg (fun k_ e_ => .inl (UU35.out.1 k_ e_))); have n3_ := aM (ho); clear HO117 HB HH35 HO_8 UU35 HL119_1; have HO117 := n0_; have HB := n1_; have HH35 := n2_; have HO122 := n3_; clear n0_ n1_ n2_ n3_; clear ho hb hg hat; have p31 : 0 ≤ (a1 : Int) := of_decide_eq_true (by first | (with_reducible assumption) | assumption); have q31 : (a1 : Int) < ((t105.length : Int) : Int) := of_decide_eq_true (by first | (with_reducible assumption) | assumption); replace p31 := eq_true p31; replace q31 := eq_true q31; obtain ⟨Ao39, co39, eo39⟩ := Kd.R_slice HO122.out; subst eo39; obtain ⟨_, _, hraw37, _, _, hcc37, _⟩ := Kd.H_raw HH35.out (of_decide_eq_true (by first | (with_reducible assumption) | assumption)) (by have h_ : (a1 : Int) < ((t105.length : Int) : Int) := of_decide_eq_true (by first | (with_reducible assumption) | assumption); first | exact h_ | (have e_ := (HN35.out); omega) | simpa using h_); obtain ⟨_, hfr37⟩ := Kd.H_at HH35.out (of_decide_eq_true (by first | (with_reducible assumption) | assumption)) (by have h_ : (a1 : Int) < ((t105.length : Int) : Int) := of_decide_eq_true (by first | (with_reducible assumption) | assumption); first | exact h_ | (have e_ := (HN35.out); omega) | simpa using h_); have hx37_0 := hcc37 1 _ rfl; have hf37_0 := hfr37 1; (try rw [show (k45).sz = 2 from rfl] at hx37_0); (try rw [show (k45).sz = 2 from rfl] at hf37_0); have HP37 := Kd.S_seg0 HH35.out (of_decide_eq_true (by first | (with_reducible assumption) | assumption)) (by have h_ : (a1 : Int) < ((t105.length : Int) : Int) := of_decide_eq_true (by first | (with_reducible assumption) | assumption); first | exact h_ | (have e_ := (HN35.out); omega) | simpa using h_) (seg := [.slice Ao39 y120.length co39]) (j := 1) (show 2 ≤ 2 from by decide) (x' := (⟨(rd_T45 t105 a1).f0, y120⟩ : S45)) (k45_mkM _ _ _ (⟨(rd_T45 t105 a1).f0, y120⟩ : S45) HO122.out) (fun _ hk => hk); clear hcc37 hfr37) | ((with_reducible refine gate_store (t := 24) (p := 78) rfl ?_); refine store_event (t := 24) (p := 78) (v := ?vo_w38) (w1 := (w36.setCell ⟨go35, (a1 : Int).toNat * 2 + 1, none⟩ (.slice Ao39 y120.length co39))) ?hg ?ho ?hn ?hr ?_; (case ho => rfl); (case hg => rfl); (case hn => rfl); (case hr => first | (go_simp; done) | (go_simp; rfl)); intro w38 hw; have hg : w36.grownBy w38 (some go35) := (by rw [hw]; exact HP37.2); have hp_ : Kd.S k45 45 w38 w.heap.size (fun k_ => some k_ ≠ (.slice Ao33 t115.length co33 : Value).ownBlock) (.slice (some ⟨go35, 0, none⟩) t105.length co34) y123 := (by rw [hw, Ny123.out]; exact HP37.1); clear HP37; have n0_ := aM (Kd.R_over' (v := (.slice (some ⟨go35, 0, none⟩) t105.length co34)) (rq HO117) (Kd.R_typed hraw37) (by decide) hg); have n1_ := aM ((by rw [hw]; exact below_set HB.out GB35.out : Below w.heap.size w w38)); have n2_ := aM (hp_); clear HO117 HB HO122 HH35; have HO117 := n0_; have HB := n1_; have HO_8 := n2_; clear n0_ n1_ n2_; clear hg hw hp_ hraw37))
                go_ret2
                exact ⟨_, by first | rfl | (simp <;> rfl) | (simp [*] <;> rfl), by (with_reducible repeat (first | apply Kd.S_alloc | apply Kd.S_drewN | apply Kd.S_drew)); exact Kd.S_mono HO_8.out (fun _ hk => trivial), bq HB⟩
              rw [if_neg c30] at H
              exact absurd H (by simp)
            rw [if_neg c29] at H
            exact absurd H (by simp)
          rw [if_neg c17] at H
          exact absurd H (by simp)
        rw [if_neg c16] at H
        exact absurd H (by simp)
  replace c5 := Bool.eq_false_iff.mpr c5
  subst c5
  have H1 : (some ((([] : List (S45))), 2)) = some (r1, r2) := by rw [if_neg (show ¬ (false = true) by decide)] at H; exact H
  clear H
  have H := H1
  clear H1
  obtain ⟨y102, hy102⟩ : ∃ y_ : List (S45), y_ = (([] : List (S45))) := ⟨_, rfl⟩
  replace H : (some (y102, 2)) = some (r1, r2) := by first | (rw [hy102]; with_reducible exact H) | (have H2_ := (Option.bind_some _ _).symm.trans H; rw [hy102]; with_reducible exact H2_) | (have H2_ := (Option.bind_some _ _).symm.trans H; with_reducible exact H2_) | with_reducible exact H | (rw [hy102]; exact H) | exact H
  have Ny102 := Aside0.mk hy102
  clear hy102
  simp only [Option.some.injEq, Prod.mk.injEq] at H
  obtain ⟨rfl, rfl⟩ := H
  go_enter Try.func15, Try.ntmps15
  go_wp2_with (first | ((with_reducible refine gate_callee (f := 21) rfl ?_); refine gL (some 10) Try.func21 #[.slice A0 l0.length c0] ?_; (with_reducible refine (spec_LocksOk.calls k _ _ l0 false _ ?side1 ?side2 A4.out).mono ?_); (case side1 => repeat (first | exact HR0.out | (with_reducible refine Kd.C_alloc ?_ _) | (with_reducible refine Kd.C_drewN ?_ _) | (with_reducible refine Kd.C_drew ?_))); (case side2 => exact HC0.out); rintro e w40 ⟨rfl, hb⟩; refine ⟨_, rfl, ?_⟩; have n0_ := aM (below_step (bq HB) hb); clear HB; have HB := n0_; clear n0_; (try clear hb); (try clear hb2); (try clear hk); (try clear hi)) | ((with_reducible refine gate_dst (N := 12) rfl ?_); refine Kd.S_lit k45 _ 45 ?hg (N := 12) ?hd (xs := ([] : List (S45))) (inner := []) (ok := fun _ => True) (okp := fun _ => True) ?hr ?hp (fun _ hk => hk) trivial (Below.refl _ _) (Nat.le_refl _) (by simp) ?_; (case hd => rfl); (case hg => rfl); (case hr => first | (go_simp; done) | (go_simp; rfl)); (case hp => exact (Reps.none _ _)); intro v103 w41 ho42 hb hg_ hnew_; clear hg_ hnew_; (first | rw [← Ny102.out] at ho42 | (simp only [Int.reduceToNat] at ho42; rw [← Ny102.out] at ho42)); have n0_ := aM (Kd.S_lower ho42 (below_size (bq HB))); have n1_ := aM (below_step (bq HB) hb); clear HB; have HO104 := n0_; have HB := n1_; clear n0_ n1_; clear hb ho42))
  go_ret2
  exact ⟨_, by first | rfl | (simp <;> rfl) | (simp [*] <;> rfl), by (with_reducible repeat (first | apply Kd.S_alloc | apply Kd.S_drewN | apply Kd.S_drew)); exact HO104.out, bq HB⟩

end Go.Proofs.Ythabcadkaocciaa.Print
