/- Go functions as plain Lean functions, and that the Go code answers just as these, wherever they answer. Conditions: those of each theorem. Written by a program of this session (wip/patch.py). -/
import Derived.Test.YthabcadkaocciaaPrint0
import Derived.Test.YthabcadkaocciaaPrintImplLocksOk
import Derived.Test.YthabcadkaocciaaPrintLawsEqLockS
import Derived.Test.YthabcadkaocciaaPrintLawsToIntS
import Derived.Test.YthabcadkaocciaaPrintSlicesIndexIntInt
import Derived.Test.YthabcadkaocciaaPrintSpecChainOf
import Derived.Test.YthabcadkaocciaaPrintSpecL7Copy
import Derived.Test.YthabcadkaocciaaPrintSpecLockAsk
namespace Go.Proofs.Ythabcadkaocciaa.Print
open Go.RowKit Go.Proofs.Ythabcadkaocciaa.Base Go.Proofs.YthabcadkaocciaaW.PrintWords Go.Proofs.YthabcadkaocciaaW.PrintLast Go.Proofs.YthabcadkaocciaaW.PrintMore
attribute [local go_sem] max2_int min2_int max_two min_two max_three min_three max_four min_four   -- for this text's walks alone
set_option linter.unusedVariables false
set_option linter.unusedSimpArgs false

/-! ### impl_LockAsk: function 16 -/
def impl_LockAsk.j0 : Nat → List (S45) → Int → Int → List (S45) → Bool → Option ((List (S45)) × Int)
  | 0, _, _, _, _, _ => none
  | k + 1, x0, x1, x2, x8, x14 => if x14 = true then (some (x8, 2)) else (if 0 ≤ x1 then (if x1 < (x0.length : Int) then (if ((rd_T45 x0 x1).f0) = x2 then (some (x8, 3)) else (if ((rd_T45 x0 x1).f0) = 0 then (if x1 < (x8.length : Int) then (some ((x8.set (x1 : Int).toNat (⟨x2, (rd_T45 x8 x1).f1⟩ : S45)), 0)) else (none)) else ((impl_ChainOf.f k x0 ((rd_T45 x0 x1).f0)).bind fun t112 => ((slices_Contains_int_int.f k t112 x2).bind fun t115 => (if t115 = true then (some (x8, 4)) else (if x1 < (x8.length : Int) then (if ((rd_T45 x8 x1).f1).length < 17592186044416 then (some ((x8.set (x1 : Int).toNat (⟨(rd_T45 x8 x1).f0, (((rd_T45 x8 x1).f1) ++ [x2])⟩ : S45)), 1)) else (none)) else (none))))))) else (none)) else (none))
def impl_LockAsk.f (k : Nat) (l0 : List (S45)) (a1 : Int) (a2 : Int) : Option ((List (S45)) × Int) := (impl_LocksOk.f k l0).bind fun t101 => (if t101 = true then ((impl_cloneLocks.f k l0).bind fun t102 => ((impl_in.f a1 0 (wrap64 ((l0.length : Int) - 1))).bind fun t105 => (if t105 = true then ((impl_isNo.f a2).bind fun t106 => (if t106 = true then ((impl_WaitAt.f l0 a2).bind fun t107 => (impl_LockAsk.j0 k l0 a1 a2 t102 (decide (t107 ≥ 0)))) else (impl_LockAsk.j0 k l0 a1 a2 t102 true))) else (impl_LockAsk.j0 k l0 a1 a2 t102 true)))) else (some (([] : List (S45)), 2)))
theorem impl_LockAsk.mono_l : ∀ k, (∀ y0 y1 y2 y3 y4, LeO (impl_LockAsk.j0 k y0 y1 y2 y3 y4) (impl_LockAsk.j0 (k + 1) y0 y1 y2 y3 y4))
  | 0 => fun _ _ _ _ _ r h => by simp [impl_LockAsk.j0] at h
  | k + 1 => by
    have ih0 := impl_LockAsk.mono_l k
    intro y0 y1 y2 y3 y4
    unfold impl_LockAsk.j0
    repeat' first
    | (with_reducible exact ih0 _ _ _ _ _)
    | (with_reducible exact impl_ChainOf.mono _ _ _)
    | (with_reducible exact impl_LocksOk.mono _ _)
    | (with_reducible exact impl_cloneLocks.mono _ _)
    | (with_reducible exact slices_Contains_int_int.mono _ _ _)
    | (with_reducible exact LeO.refl _)
    | (with_reducible exact LeO.none _)
    | (with_reducible refine LeO.ite ?_ ?_)
    | (with_reducible refine LeO.bind ?_ (fun _ => ?_))
    | exact ih0 _ _ _ _ _
    | exact impl_ChainOf.mono _ _ _
    | exact impl_LocksOk.mono _ _
    | exact impl_cloneLocks.mono _ _
    | exact slices_Contains_int_int.mono _ _ _
    | exact LeO.none _
    | refine LeO.ite ?_ ?_
    | refine LeO.bind ?_ (fun _ => ?_)
theorem impl_LockAsk.mono : ∀ a0 a1 a2 k, LeO (impl_LockAsk.f k a0 a1 a2) (impl_LockAsk.f (k + 1) a0 a1 a2) := by
  intro a0 a1 a2 k
  have ih0 := impl_LockAsk.mono_l k
  unfold impl_LockAsk.f
  repeat' first
      | (with_reducible exact ih0 _ _ _ _ _)
      | (with_reducible exact impl_ChainOf.mono _ _ _)
      | (with_reducible exact impl_LocksOk.mono _ _)
      | (with_reducible exact impl_cloneLocks.mono _ _)
      | (with_reducible exact slices_Contains_int_int.mono _ _ _)
      | (with_reducible exact LeO.refl _)
      | (with_reducible exact LeO.none _)
      | (with_reducible refine LeO.ite ?_ ?_)
      | (with_reducible refine LeO.bind ?_ (fun _ => ?_))
      | exact ih0 _ _ _ _ _
      | exact impl_ChainOf.mono _ _ _
      | exact impl_LocksOk.mono _ _
      | exact impl_cloneLocks.mono _ _
      | exact slices_Contains_int_int.mono _ _ _
      | exact LeO.none _
      | refine LeO.ite ?_ ?_
      | refine LeO.bind ?_ (fun _ => ?_)
set_option maxHeartbeats 8000000 in
set_option maxRecDepth 100000 in
theorem impl_LockAsk.calls (k : Nat) (A0 : Option Addr) (c0 : Nat) (l0 : List (S45)) (a1 : Int) (a2 : Int) (r1 : List (S45)) (r2 : Int) (w : World) (hr0 : Kd.C k45 w A0 l0.length l0) (hc0 : l0.length ≤ c0) (h : impl_LockAsk.f k l0 a1 a2 = some (r1, r2)) :
    Calls Try.prog 16 #[.slice A0 l0.length c0, .int .i64 a1, .int .i64 a2] w fun e w' => ∃ v0_ : Value, e = .returned (.tuple #[v0_, .int .i64 r2]) ∧ Kd.S k45 45 w' w.heap.size (fun _ => True) v0_ r1 ∧ Below w.heap.size w w' := by
  have HR0 := Aside0.mk hr0
  have HC0 := Aside0.mk hc0
  clear hr0 hc0
  have HB := aM (Below.refl w.heap.size w)
  have H : ((impl_LocksOk.f k l0).bind fun t101 => (if t101 = true then ((impl_cloneLocks.f k l0).bind fun t102 => ((impl_in.f a1 0 (wrap64 ((l0.length : Int) - 1))).bind fun t105 => (if t105 = true then ((impl_isNo.f a2).bind fun t106 => (if t106 = true then ((impl_WaitAt.f l0 a2).bind fun t107 => (impl_LockAsk.j0 k l0 a1 a2 t102 (decide (t107 ≥ 0)))) else (impl_LockAsk.j0 k l0 a1 a2 t102 true))) else (impl_LockAsk.j0 k l0 a1 a2 t102 true)))) else (some (([] : List (S45)), 2)))) = some (r1, r2) := h
  clear h
  replace H := Option.bind_eq_some_iff.mp H
  obtain ⟨t101, A40, H⟩ := H
  replace H : (if t101 = true then ((impl_cloneLocks.f k l0).bind fun t102 => ((impl_in.f a1 0 (wrap64 ((l0.length : Int) - 1))).bind fun t105 => (if t105 = true then ((impl_isNo.f a2).bind fun t106 => (if t106 = true then ((impl_WaitAt.f l0 a2).bind fun t107 => (impl_LockAsk.j0 k l0 a1 a2 t102 (decide (t107 ≥ 0)))) else (impl_LockAsk.j0 k l0 a1 a2 t102 true))) else (impl_LockAsk.j0 k l0 a1 a2 t102 true)))) else (some (([] : List (S45)), 2))) = some (r1, r2) := H
  have A4 := Aside0.mk A40
  clear A40
  by_cases c5 : t101 = true
  · subst c5
    have H1 : ((impl_cloneLocks.f k l0).bind fun t102 => ((impl_in.f a1 0 (wrap64 ((l0.length : Int) - 1))).bind fun t105 => (if t105 = true then ((impl_isNo.f a2).bind fun t106 => (if t106 = true then ((impl_WaitAt.f l0 a2).bind fun t107 => (impl_LockAsk.j0 k l0 a1 a2 t102 (decide (t107 ≥ 0)))) else (impl_LockAsk.j0 k l0 a1 a2 t102 true))) else (impl_LockAsk.j0 k l0 a1 a2 t102 true)))) = some (r1, r2) := by rw [if_pos rfl] at H; exact H
    clear H
    have H := H1
    clear H1
    replace H := Option.bind_eq_some_iff.mp H
    obtain ⟨t102, A60, H⟩ := H
    replace H : ((impl_in.f a1 0 (wrap64 ((l0.length : Int) - 1))).bind fun t105 => (if t105 = true then ((impl_isNo.f a2).bind fun t106 => (if t106 = true then ((impl_WaitAt.f l0 a2).bind fun t107 => (impl_LockAsk.j0 k l0 a1 a2 t102 (decide (t107 ≥ 0)))) else (impl_LockAsk.j0 k l0 a1 a2 t102 true))) else (impl_LockAsk.j0 k l0 a1 a2 t102 true))) = some (r1, r2) := H
    have A6 := Aside0.mk A60
    clear A60
    have HC7 := Aside0.mk H
    clear H
    go_enter Try.func16, Try.ntmps16
    go_upto_region 4 with (first | ((with_reducible refine gate_callee (f := 24) rfl ?_); refine gL (some 10) Try.func24 #[.slice A0 l0.length c0] ?_; (with_reducible refine (impl_LocksOk.calls k _ _ l0 true _ ?side1 ?side2 A4.out).mono ?_); (case side1 => repeat (first | exact HR0.out | (with_reducible refine Kd.C_alloc ?_ _) | (with_reducible refine Kd.C_drewN ?_ _) | (with_reducible refine Kd.C_drew ?_))); (case side2 => exact HC0.out); rintro e w8 ⟨rfl, hb⟩; refine ⟨_, rfl, ?_⟩; have n0_ := aM (below_step (bq HB) hb); clear HB; have HB := n0_; clear n0_; (try clear hb); (try clear hb2); (try clear hk); (try clear hi)) | ((with_reducible refine gate_callee (f := 31) rfl ?_); refine gL (some 13) Try.func31 #[.slice A0 l0.length c0] ?_; (with_reducible refine (impl_cloneLocks.calls k _ _ l0 t102 _ ?side1 ?side2 A6.out).mono ?_); (case side1 => repeat (first | exact (Kd.C_below HR0.out HB.out) | (with_reducible refine Kd.C_alloc ?_ _) | (with_reducible refine Kd.C_drewN ?_ _) | (with_reducible refine Kd.C_drew ?_))); (case side2 => exact HC0.out); rintro e w9 ⟨v103, rfl, ho0, hb⟩; refine ⟨_, rfl, ?_⟩; have n0_ := aM (Kd.S_lower ho0 (below_size (bq HB))); have n1_ := aM (below_step (bq HB) hb); clear HB; have HO104 := n0_; have HB := n1_; clear n0_ n1_; (try clear hb); (try clear hb2); (try clear hk); (try clear hi); (try clear ho0)))
    (try simp only [Act.put, tA, tB, tC])
    go_cut [14] (fun v14 wc => ∃ (kq : Nat) (x14_6 : Bool), v14 = .bool x14_6 ∧ Aside0 (impl_LockAsk.j0 kq l0 a1 a2 t102 x14_6 = some (r1, r2)) ∧ Aside0 (kq ≤ k) ∧ Aside0 (Kd.S k45 45 wc w.heap.size (fun _ => True) v103 t102) ∧ Aside0 (Below w.heap.size w wc))
    case first =>
      have H := HC7.out
      clear HC7
      replace H := Option.bind_eq_some_iff.mp H
      obtain ⟨t105, A100, H⟩ := H
      replace H : (if t105 = true then ((impl_isNo.f a2).bind fun t106 => (if t106 = true then ((impl_WaitAt.f l0 a2).bind fun t107 => (impl_LockAsk.j0 k l0 a1 a2 t102 (decide (t107 ≥ 0)))) else (impl_LockAsk.j0 k l0 a1 a2 t102 true))) else (impl_LockAsk.j0 k l0 a1 a2 t102 true)) = some (r1, r2) := H
      have A10 := Aside0.mk A100
      clear A100
      by_cases c11 : t105 = true
      · subst c11
        have H1 : ((impl_isNo.f a2).bind fun t106 => (if t106 = true then ((impl_WaitAt.f l0 a2).bind fun t107 => (impl_LockAsk.j0 k l0 a1 a2 t102 (decide (t107 ≥ 0)))) else (impl_LockAsk.j0 k l0 a1 a2 t102 true))) = some (r1, r2) := by rw [if_pos rfl] at H; exact H
        clear H
        have H := H1
        clear H1
        replace H := Option.bind_eq_some_iff.mp H
        obtain ⟨t106, A120, H⟩ := H
        replace H : (if t106 = true then ((impl_WaitAt.f l0 a2).bind fun t107 => (impl_LockAsk.j0 k l0 a1 a2 t102 (decide (t107 ≥ 0)))) else (impl_LockAsk.j0 k l0 a1 a2 t102 true)) = some (r1, r2) := H
        have A12 := Aside0.mk A120
        clear A120
        by_cases c13 : t106 = true
        · subst c13
          have H1 : ((impl_WaitAt.f l0 a2).bind fun t107 => (impl_LockAsk.j0 k l0 a1 a2 t102 (decide (t107 ≥ 0)))) = some (r1, r2) := by rw [if_pos rfl] at H; exact H
          clear H
          have H := H1
          clear H1
          replace H := Option.bind_eq_some_iff.mp H
          obtain ⟨t107, A140, H⟩ := H
          replace H : (impl_LockAsk.j0 k l0 a1 a2 t102 (decide (t107 ≥ 0))) = some (r1, r2) := H
          have A14 := Aside0.mk A140
          clear A140
          have H' := Aside0.mk H
          clear H
          go_wp2_with (first | ((with_reducible refine gate_callee (f := 32) rfl ?_); refine gL (some 19) Try.func32 #[.int .i64 a1, .int .i64 0, .int .i64 (wrap64 ((l0.length : Int) - 1))] ?_; (with_reducible refine (impl_in.calls a1 0 (wrap64 ((l0.length : Int) - 1)) true _ A10.out).mono ?_); rintro e w' ⟨rfl, ⟨nd, rfl⟩⟩; refine ⟨_, rfl, ?_⟩) | (go_at_call 33; (with_reducible refine (impl_isNo.calls a2 true _ A12.out).mono ?_); rintro e w' ⟨rfl, ⟨nd, rfl⟩⟩) | (go_at_call 34; (with_reducible refine (impl_WaitAt.calls _ _ l0 a2 t107 _ ?side1 ?side2 A14.out).mono ?_); (case side1 => repeat (first | exact (Kd.C_below HR0.out (bq HB)) | (with_reducible refine Kd.C_alloc ?_ _) | (with_reducible refine Kd.C_drewN ?_ _) | (with_reducible refine Kd.C_drew ?_))); (case side2 => exact HC0.out); rintro e w15 ⟨rfl, hb⟩; have n0_ := aM (Kd.S_below (sq HO104) hb); have n1_ := aM (below_step (bq HB) hb); clear HO104 HB; have HO104 := n0_; have HB := n1_; clear n0_ n1_; (try clear hb); (try clear hb2); (try clear hk); (try clear hi)))
          go_meet
          case rel => exact ⟨_, (decide (t107 ≥ 0)), (by first | rfl | (simp; done) | (simp [*]; done)), H', ⟨by first | omega | exact Nat.le_refl _⟩, ⟨by (with_reducible repeat (first | apply Kd.S_alloc | apply Kd.S_drewN | apply Kd.S_drew)); exact HO104.out⟩, ⟨bq HB⟩⟩
        replace c13 := Bool.eq_false_iff.mpr c13
        subst c13
        have H1 : (impl_LockAsk.j0 k l0 a1 a2 t102 true) = some (r1, r2) := by rw [if_neg (show ¬ (false = true) by decide)] at H; exact H
        clear H
        have H := H1
        clear H1
        have H' := Aside0.mk H
        clear H
        go_wp2_with (first | ((with_reducible refine gate_callee (f := 32) rfl ?_); refine gL (some 19) Try.func32 #[.int .i64 a1, .int .i64 0, .int .i64 (wrap64 ((l0.length : Int) - 1))] ?_; (with_reducible refine (impl_in.calls a1 0 (wrap64 ((l0.length : Int) - 1)) true _ A10.out).mono ?_); rintro e w' ⟨rfl, ⟨nd, rfl⟩⟩; refine ⟨_, rfl, ?_⟩) | (go_at_call 33; (with_reducible refine (impl_isNo.calls a2 false _ A12.out).mono ?_); rintro e w' ⟨rfl, ⟨nd, rfl⟩⟩))
        go_meet
        case rel => exact ⟨_, (true), (by first | rfl | (simp; done) | (simp [*]; done)), H', ⟨by first | omega | exact Nat.le_refl _⟩, ⟨by (with_reducible repeat (first | apply Kd.S_alloc | apply Kd.S_drewN | apply Kd.S_drew)); exact HO104.out⟩, ⟨bq HB⟩⟩
      replace c11 := Bool.eq_false_iff.mpr c11
      subst c11
      have H1 : (impl_LockAsk.j0 k l0 a1 a2 t102 true) = some (r1, r2) := by rw [if_neg (show ¬ (false = true) by decide)] at H; exact H
      clear H
      have H := H1
      clear H1
      have H' := Aside0.mk H
      clear H
      go_wp2_with (first | ((with_reducible refine gate_callee (f := 32) rfl ?_); refine gL (some 19) Try.func32 #[.int .i64 a1, .int .i64 0, .int .i64 (wrap64 ((l0.length : Int) - 1))] ?_; (with_reducible refine (impl_in.calls a1 0 (wrap64 ((l0.length : Int) - 1)) false _ A10.out).mono ?_); rintro e w' ⟨rfl, ⟨nd, rfl⟩⟩; refine ⟨_, rfl, ?_⟩))
      go_meet
      case rel => exact ⟨_, (true), (by first | rfl | (simp; done) | (simp [*]; done)), H', ⟨by first | omega | exact Nat.le_refl _⟩, ⟨by (with_reducible repeat (first | apply Kd.S_alloc | apply Kd.S_drewN | apply Kd.S_drew)); exact HO104.out⟩, ⟨bq HB⟩⟩
    case rest =>
      clear HC7
      try clear c1
      try clear c2
      try clear p2
      try clear c3
      try clear c5
      try clear p6
      try clear c11
      try clear c13
      obtain ⟨kq, x14_6, rfl, HA, HJ6, HO_8, HB⟩ := hcut
      cases kq with
      | zero => exact absurd HA.out (by simp [impl_LockAsk.j0])
      | succ kj6 =>
        have H := HA.out
        clear HA
        simp only [impl_LockAsk.j0] at H
        by_cases c16 : x14_6 = true
        · subst c16
          have H1 : (some (t102, 2)) = some (r1, r2) := by rw [if_pos rfl] at H; exact H
          clear H
          have H := H1
          clear H1
          simp only [Option.some.injEq, Prod.mk.injEq] at H
          obtain ⟨rfl, rfl⟩ := H
          go_wp2
          go_ret2
          exact ⟨_, by first | rfl | (simp <;> rfl) | (simp [*] <;> rfl), by (with_reducible repeat (first | apply Kd.S_alloc | apply Kd.S_drewN | apply Kd.S_drew)); exact HO_8.out, bq HB⟩
        replace c16 := Bool.eq_false_iff.mpr c16
        subst c16
        have H1 : (if 0 ≤ a1 then (if a1 < (l0.length : Int) then (if ((rd_T45 l0 a1).f0) = a2 then (some (t102, 3)) else (if ((rd_T45 l0 a1).f0) = 0 then (if a1 < (t102.length : Int) then (some ((t102.set (a1 : Int).toNat (⟨a2, (rd_T45 t102 a1).f1⟩ : S45)), 0)) else (none)) else ((impl_ChainOf.f kj6 l0 ((rd_T45 l0 a1).f0)).bind fun t112 => ((slices_Contains_int_int.f kj6 t112 a2).bind fun t115 => (if t115 = true then (some (t102, 4)) else (if a1 < (t102.length : Int) then (if ((rd_T45 t102 a1).f1).length < 17592186044416 then (some ((t102.set (a1 : Int).toNat (⟨(rd_T45 t102 a1).f0, (((rd_T45 t102 a1).f1) ++ [a2])⟩ : S45)), 1)) else (none)) else (none))))))) else (none)) else (none)) = some (r1, r2) := by rw [if_neg (show ¬ (false = true) by decide)] at H; exact H
        clear H
        have H := H1
        clear H1
        by_cases c17 : 0 ≤ a1
        · rw [if_pos c17] at H
          have c17b0 : decide (0 ≤ a1) = true := decide_eq_true c17
          clear c17
          by_cases c18 : a1 < (l0.length : Int)
          · rw [if_pos c18] at H
            have c18b0 : decide (a1 < (l0.length : Int)) = true := decide_eq_true c18
            clear c18
            by_cases c19 : ((rd_T45 l0 a1).f0) = a2
            · rw [if_pos c19] at H
              have c19b0 : (((rd_T45 l0 a1).f0) == a2) = true := beq_iff_eq.mpr c19
              have c19b1 : (((rd_T45 l0 a1).f0) != a2) = false := bne_eq_false_iff_eq.mpr c19
              clear c19
              simp only [Option.some.injEq, Prod.mk.injEq] at H
              obtain ⟨rfl, rfl⟩ := H
              have p108 : 0 ≤ (a1 : Int) := of_decide_eq_true (by first | (with_reducible assumption) | assumption)
              have q108 : a1 < (l0.length : Int) := of_decide_eq_true (by first | (with_reducible assumption) | assumption)
              obtain ⟨ad108, A108_1, c108_1, e108, hx108_0, hx108_1, hl108_1, hi108_1⟩ := at_T45 HR0.out a1 p108 q108
              cases e108
              replace hx108_0 := (HB.out.cell (World.block_lt_of_cell? w _ hx108_0)).trans hx108_0
              replace hx108_1 := (HB.out.cell (World.block_lt_of_cell? w _ hx108_1)).trans hx108_1
              have HR108_1 := Aside0.mk hi108_1
              have HC108_1 := Aside0.mk hl108_1
              clear hi108_1 hl108_1
              replace p108 := eq_true p108
              replace q108 := eq_true q108
              go_wp2
              go_ret2
              exact ⟨_, by first | rfl | (simp <;> rfl) | (simp [*] <;> rfl), by (with_reducible repeat (first | apply Kd.S_alloc | apply Kd.S_drewN | apply Kd.S_drew)); exact HO_8.out, bq HB⟩
            rw [if_neg c19] at H
            have c19b0 : (((rd_T45 l0 a1).f0) == a2) = false := beq_eq_false_iff_ne.mpr c19
            have c19b1 : (((rd_T45 l0 a1).f0) != a2) = true := bne_iff_ne.mpr c19
            by_cases c20 : ((rd_T45 l0 a1).f0) = 0
            · rw [if_pos c20] at H
              have c20b0 : (((rd_T45 l0 a1).f0) == 0) = true := beq_iff_eq.mpr c20
              have c20b1 : (((rd_T45 l0 a1).f0) != 0) = false := bne_eq_false_iff_eq.mpr c20
              clear c20
              by_cases c21 : a1 < (t102.length : Int)
              · rw [if_pos c21] at H
                have c21b0 : decide (a1 < (t102.length : Int)) = true := decide_eq_true c21
                clear c21
                obtain ⟨y110, hy110⟩ : ∃ y_ : List (S45), y_ = (t102.set (a1 : Int).toNat (⟨a2, (rd_T45 t102 a1).f1⟩ : S45)) := ⟨_, rfl⟩
                replace H : (some (y110, 0)) = some (r1, r2) := by first | (rw [hy110]; with_reducible exact H) | (have H2_ := (Option.bind_some _ _).symm.trans H; rw [hy110]; with_reducible exact H2_) | (have H2_ := (Option.bind_some _ _).symm.trans H; with_reducible exact H2_) | with_reducible exact H | (rw [hy110]; exact H) | exact H
                have Ny110 := Aside0.mk hy110
                clear hy110
                simp only [Option.some.injEq, Prod.mk.injEq] at H
                obtain ⟨rfl, rfl⟩ := H
                have p108 : 0 ≤ (a1 : Int) := of_decide_eq_true (by first | (with_reducible assumption) | assumption)
                have q108 : a1 < (l0.length : Int) := of_decide_eq_true (by first | (with_reducible assumption) | assumption)
                obtain ⟨ad108, A108_1, c108_1, e108, hx108_0, hx108_1, hl108_1, hi108_1⟩ := at_T45 HR0.out a1 p108 q108
                cases e108
                replace hx108_0 := (HB.out.cell (World.block_lt_of_cell? w _ hx108_0)).trans hx108_0
                replace hx108_1 := (HB.out.cell (World.block_lt_of_cell? w _ hx108_1)).trans hx108_1
                have HR108_1 := Aside0.mk hi108_1
                have HC108_1 := Aside0.mk hl108_1
                clear hi108_1 hl108_1
                replace p108 := eq_true p108
                replace q108 := eq_true q108
                have p109 : 0 ≤ (a1 : Int) := of_decide_eq_true (by first | (with_reducible assumption) | assumption)
                have q109 : a1 < (l0.length : Int) := of_decide_eq_true (by first | (with_reducible assumption) | assumption)
                obtain ⟨ad109, A109_1, c109_1, e109, hx109_0, hx109_1, hl109_1, hi109_1⟩ := at_T45 HR0.out a1 p109 q109
                obtain rfl : ad108 = ad109 := (by injection e109)
                replace hx109_0 := (HB.out.cell (World.block_lt_of_cell? w _ hx109_0)).trans hx109_0
                replace hx109_1 := (HB.out.cell (World.block_lt_of_cell? w _ hx109_1)).trans hx109_1
                have HR109_1 := Aside0.mk hi109_1
                have HC109_1 := Aside0.mk hl109_1
                clear hi109_1 hl109_1
                replace p109 := eq_true p109
                replace q109 := eq_true q109
                have ea_ := Option.some.inj (hx108_1.symm.trans hx109_1)
                injection ea_ with ea_ en_ ec_
                subst ea_
                subst ec_
                clear en_
                have p22 : 0 ≤ (a1 : Int) := of_decide_eq_true (by first | (with_reducible assumption) | assumption)
                have q22 : (a1 : Int) < ((t102.length : Int) : Int) := of_decide_eq_true (by first | (with_reducible assumption) | assumption)
                obtain ⟨go22, co22, eo22, gb22, gl22, cl22, HG22⟩ := Kd.S_form HO_8.out (by omega)
                (first | cases eo22 | (injection eo22 with ea_ en_ ec_; (first | subst ea_ | (injection ea_ with ea_; subst ea_)); subst ec_; clear en_))
                have GB22 := Aside0.mk gb22
                have GG22 := Aside0.mk HG22
                clear gb22 gl22 HG22
                obtain ⟨_, ce22, hcl22, hM22, hcc22, hfr22, _, _⟩ := Kd.S_elem HO_8.out z45 (a1 : Int) p22 q22
                obtain ⟨ve22_1, rfl, ge22_1⟩ := k45_openM hM22
                have hx22_0 : wc.cell? ⟨go22, (a1 : Int).toNat * 2, none⟩ = some (.int .i64 ((rd_T45 t102 a1).f0)) := hcc22 0 _ rfl
                have hx22_1 : wc.cell? ⟨go22, (a1 : Int).toNat * 2 + 1, none⟩ = some (ve22_1) := hcc22 1 _ rfl
                have hf22_0 : wc.frozen? ⟨go22, (a1 : Int).toNat * 2, none⟩ = false := hfr22 0
                have hf22_1 : wc.frozen? ⟨go22, (a1 : Int).toNat * 2 + 1, none⟩ = false := hfr22 1
                clear hcl22 hcc22 hfr22 hM22
                replace p22 := eq_true p22
                replace q22 := eq_true q22
                have HX23 := aM (show Kd.S k45 45 wc w.heap.size (fun k_ => ((fun _ => True)) k_ ∧ ¬ ((fun _ => False)) k_) (.slice (some ⟨go22, 0, none⟩) t102.length co22) t102 from (by (with_reducible repeat (first | apply Kd.S_alloc | apply Kd.S_drewN | apply Kd.S_drew)); exact Kd.S_mono HO_8.out (fun k_ hk => ⟨trivial, fun e_ => e_⟩)))
                obtain ⟨oki23, ce23, hcl23, hM23, hcc23, hfr23, hoki23, hH23⟩ := Kd.S_elem HX23.out z45 (a1 : Int) (of_decide_eq_true (by first | (with_reducible assumption) | assumption)) (by have h_ : (a1 : Int) < ((t102.length : Int) : Int) := of_decide_eq_true (by first | (with_reducible assumption) | assumption); first | exact h_ | (have e_ := (Kd.S_reads' HO_8.out).1; omega) | simpa using h_)
                obtain ⟨ve23_1, rfl, ge23_1⟩ := k45_openM hM23
                have HP23 := Kd.S_seg hH23 (of_decide_eq_true (by first | (with_reducible assumption) | assumption)) (by have h_ : (a1 : Int) < ((t102.length : Int) : Int) := of_decide_eq_true (by first | (with_reducible assumption) | assumption); first | exact h_ | (have e_ := (Kd.S_reads' HO_8.out).1; omega) | simpa using h_) (seg := [.int .i64 a2]) (j := 0) (show 1 ≤ 2 from by decide) (x' := (⟨a2, (rd_T45 t102 a1).f1⟩ : S45)) (k45_mkM _ _ _ (⟨a2, (rd_T45 t102 a1).f1⟩ : S45) (Kd.R_mono ge23_1 (fun _ h_ => Or.inl h_))) (fun _ hk => hk) (fun k_ hk_ => hk_.elim)
                have hx23_0 := hcc23 0 _ rfl
                (try simp only [show (k45).sz = 2 from rfl, Nat.mul_one, Nat.add_zero] at hx23_0)
                have hf23_0 := hfr23 0
                (try simp only [show (k45).sz = 2 from rfl, Nat.mul_one, Nat.add_zero] at hf23_0)
                clear hcl23 hcc23 hfr23 hM23 hoki23 hH23
                go_wp2_with (first | ((with_reducible refine gate_store (t := 3) (p := 53) rfl ?_); refine store_event (t := 3) (p := 53) (v := ?vo_w24) (w1 := (wc.setCell ⟨go22, (a1 : Int).toNat * 2, none⟩ (.int .i64 a2))) ?hg ?ho ?hn ?hr ?_; (case ho => rfl); (case hg => rfl); (case hn => rfl); (case hr => first | (go_simp; done) | (go_simp; rfl)); intro w24 hw; have hg : wc.grownBy w24 (some go22) := (by rw [hw]; exact HP23.2); have hp_ : Kd.S k45 45 w24 w.heap.size (fun _ => True) (.slice (some ⟨go22, 0, none⟩) t102.length co22) y110 := (by rw [hw, Ny110.out]; exact HP23.1); clear HP23; have n0_ := aM (hp_); have n1_ := aM ((by rw [hw]; exact below_set (HB.out) GB22.out : Below w.heap.size w w24)); clear HO_8 HB; have HO_8 := n0_; have HB := n1_; clear n0_ n1_; clear hg hw hp_))
                go_ret2
                exact ⟨_, by first | rfl | (simp <;> rfl) | (simp [*] <;> rfl), by (with_reducible repeat (first | apply Kd.S_alloc | apply Kd.S_drewN | apply Kd.S_drew)); exact HO_8.out, bq HB⟩
              rw [if_neg c21] at H
              exact absurd H (by simp)
            rw [if_neg c20] at H
            have c20b0 : (((rd_T45 l0 a1).f0) == 0) = false := beq_eq_false_iff_ne.mpr c20
            have c20b1 : (((rd_T45 l0 a1).f0) != 0) = true := bne_iff_ne.mpr c20
            replace H := Option.bind_eq_some_iff.mp H
            obtain ⟨t112, A250, H⟩ := H
            replace H : ((slices_Contains_int_int.f kj6 t112 a2).bind fun t115 => (if t115 = true then (some (t102, 4)) else (if a1 < (t102.length : Int) then (if ((rd_T45 t102 a1).f1).length < 17592186044416 then (some ((t102.set (a1 : Int).toNat (⟨(rd_T45 t102 a1).f0, (((rd_T45 t102 a1).f1) ++ [a2])⟩ : S45)), 1)) else (none)) else (none)))) = some (r1, r2) := H
            have A25 := Aside0.mk A250
            clear A250
            replace H := Option.bind_eq_some_iff.mp H
            obtain ⟨t115, A260, H⟩ := H
            replace H : (if t115 = true then (some (t102, 4)) else (if a1 < (t102.length : Int) then (if ((rd_T45 t102 a1).f1).length < 17592186044416 then (some ((t102.set (a1 : Int).toNat (⟨(rd_T45 t102 a1).f0, (((rd_T45 t102 a1).f1) ++ [a2])⟩ : S45)), 1)) else (none)) else (none))) = some (r1, r2) := H
            have A26 := Aside0.mk A260
            clear A260
            by_cases c27 : t115 = true
            · subst c27
              have H1 : (some (t102, 4)) = some (r1, r2) := by rw [if_pos rfl] at H; exact H
              clear H
              have H := H1
              clear H1
              simp only [Option.some.injEq, Prod.mk.injEq] at H
              obtain ⟨rfl, rfl⟩ := H
              have p108 : 0 ≤ (a1 : Int) := of_decide_eq_true (by first | (with_reducible assumption) | assumption)
              have q108 : a1 < (l0.length : Int) := of_decide_eq_true (by first | (with_reducible assumption) | assumption)
              obtain ⟨ad108, A108_1, c108_1, e108, hx108_0, hx108_1, hl108_1, hi108_1⟩ := at_T45 HR0.out a1 p108 q108
              cases e108
              replace hx108_0 := (HB.out.cell (World.block_lt_of_cell? w _ hx108_0)).trans hx108_0
              replace hx108_1 := (HB.out.cell (World.block_lt_of_cell? w _ hx108_1)).trans hx108_1
              have HR108_1 := Aside0.mk hi108_1
              have HC108_1 := Aside0.mk hl108_1
              clear hi108_1 hl108_1
              replace p108 := eq_true p108
              replace q108 := eq_true q108
              have p109 : 0 ≤ (a1 : Int) := of_decide_eq_true (by first | (with_reducible assumption) | assumption)
              have q109 : a1 < (l0.length : Int) := of_decide_eq_true (by first | (with_reducible assumption) | assumption)
              obtain ⟨ad109, A109_1, c109_1, e109, hx109_0, hx109_1, hl109_1, hi109_1⟩ := at_T45 HR0.out a1 p109 q109
              obtain rfl : ad108 = ad109 := (by injection e109)
              replace hx109_0 := (HB.out.cell (World.block_lt_of_cell? w _ hx109_0)).trans hx109_0
              replace hx109_1 := (HB.out.cell (World.block_lt_of_cell? w _ hx109_1)).trans hx109_1
              have HR109_1 := Aside0.mk hi109_1
              have HC109_1 := Aside0.mk hl109_1
              clear hi109_1 hl109_1
              replace p109 := eq_true p109
              replace q109 := eq_true q109
              have ea_ := Option.some.inj (hx108_1.symm.trans hx109_1)
              injection ea_ with ea_ en_ ec_
              subst ea_
              subst ec_
              clear en_
              have p111 : 0 ≤ (a1 : Int) := of_decide_eq_true (by first | (with_reducible assumption) | assumption)
              have q111 : a1 < (l0.length : Int) := of_decide_eq_true (by first | (with_reducible assumption) | assumption)
              obtain ⟨ad111, A111_1, c111_1, e111, hx111_0, hx111_1, hl111_1, hi111_1⟩ := at_T45 HR0.out a1 p111 q111
              obtain rfl : ad108 = ad111 := (by injection e111)
              replace hx111_0 := (HB.out.cell (World.block_lt_of_cell? w _ hx111_0)).trans hx111_0
              replace hx111_1 := (HB.out.cell (World.block_lt_of_cell? w _ hx111_1)).trans hx111_1
              have HR111_1 := Aside0.mk hi111_1
              have HC111_1 := Aside0.mk hl111_1
              clear hi111_1 hl111_1
              replace p111 := eq_true p111
              replace q111 := eq_true q111
              have ea_ := Option.some.inj (hx108_1.symm.trans hx111_1)
              injection ea_ with ea_ en_ ec_
              subst ea_
              subst ec_
              clear en_
              go_wp2_with (first | ((with_reducible refine gate_callee (f := 9) rfl ?_); refine gL (some 62) Try.func9 #[.slice (some ad108) l0.length c0, .int .i64 ((rd_T45 l0 a1).f0)] ?_; (with_reducible refine (impl_ChainOf.calls kj6 _ _ l0 ((rd_T45 l0 a1).f0) t112 _ ?side1 ?side2 A25.out).mono ?_); (case side1 => repeat (first | exact (Kd.C_below HR0.out HB.out) | (with_reducible refine Kd.C_alloc ?_ _) | (with_reducible refine Kd.C_drewN ?_ _) | (with_reducible refine Kd.C_drew ?_))); (case side2 => exact HC0.out); rintro e w28 ⟨v113, rfl, ho0, hb⟩; refine ⟨_, rfl, ?_⟩; have n0_ := aM (Kd.S_elder' (sq HO_8) (Kd.R_base ho0) hb); have n1_ := aM (Kd.R_lower ho0 (below_size (bq HB))); have n2_ := aM (below_step (bq HB) hb); clear HO_8 HB; have HO_8 := n0_; have HO114 := n1_; have HB := n2_; clear n0_ n1_ n2_; (try clear hb); (try clear hb2); (try clear hk); (try clear hi); (try clear ho0); obtain ⟨Ao29, co29, eo29⟩ := Kd.R_slice HO114.out; subst eo29) | ((with_reducible refine gate_callee (f := 35) rfl ?_); refine gL (some 64) Try.func35 #[.slice Ao29 t112.length co29, .int .i64 a2] ?_; (with_reducible refine (slices_Contains_int_int.calls kj6 _ _ t112 a2 true _ ?side1 ?side2 A26.out).mono ?_); (case side1 => repeat (first | exact (Kd.R_reads' HO114.out).2.2 | (with_reducible refine Kd.C_alloc ?_ _) | (with_reducible refine Kd.C_drewN ?_ _) | (with_reducible refine Kd.C_drew ?_))); (case side2 => exact (Kd.R_reads' HO114.out).2.1); rintro e w' ⟨rfl, ⟨nd, rfl⟩⟩; refine ⟨_, rfl, ?_⟩))
              go_ret2
              exact ⟨_, by first | rfl | (simp <;> rfl) | (simp [*] <;> rfl), by (with_reducible repeat (first | apply Kd.S_alloc | apply Kd.S_drewN | apply Kd.S_drew)); exact Kd.S_mono HO_8.out (fun _ hk => trivial), bq HB⟩
            replace c27 := Bool.eq_false_iff.mpr c27
            subst c27
            have H1 : (if a1 < (t102.length : Int) then (if ((rd_T45 t102 a1).f1).length < 17592186044416 then (some ((t102.set (a1 : Int).toNat (⟨(rd_T45 t102 a1).f0, (((rd_T45 t102 a1).f1) ++ [a2])⟩ : S45)), 1)) else (none)) else (none)) = some (r1, r2) := by rw [if_neg (show ¬ (false = true) by decide)] at H; exact H
            clear H
            have H := H1
            clear H1
            by_cases c30 : a1 < (t102.length : Int)
            · rw [if_pos c30] at H
              have c30b0 : decide (a1 < (t102.length : Int)) = true := decide_eq_true c30
              clear c30
              by_cases c31 : ((rd_T45 t102 a1).f1).length < 17592186044416
              · rw [if_pos c31] at H
                have LMc31 := Aside0.mk c31
                clear c31
                obtain ⟨y117, hy117⟩ : ∃ y_ : List Int, y_ = (((rd_T45 t102 a1).f1) ++ [a2]) := ⟨_, rfl⟩
                replace H : (some ((t102.set (a1 : Int).toNat (⟨(rd_T45 t102 a1).f0, y117⟩ : S45)), 1)) = some (r1, r2) := by first | (rw [hy117]; with_reducible exact H) | (have H2_ := (Option.bind_some _ _).symm.trans H; rw [hy117]; with_reducible exact H2_) | (have H2_ := (Option.bind_some _ _).symm.trans H; with_reducible exact H2_) | with_reducible exact H | (rw [hy117]; exact H) | exact H
                have Ny117 := Aside0.mk hy117
                clear hy117
                obtain ⟨y120, hy120⟩ : ∃ y_ : List (S45), y_ = (t102.set (a1 : Int).toNat (⟨(rd_T45 t102 a1).f0, y117⟩ : S45)) := ⟨_, rfl⟩
                replace H : (some (y120, 1)) = some (r1, r2) := by first | (rw [hy120]; with_reducible exact H) | (have H2_ := (Option.bind_some _ _).symm.trans H; rw [hy120]; with_reducible exact H2_) | (have H2_ := (Option.bind_some _ _).symm.trans H; with_reducible exact H2_) | with_reducible exact H | (rw [hy120]; exact H) | exact H
                have Ny120 := Aside0.mk hy120
                clear hy120
                simp only [Option.some.injEq, Prod.mk.injEq] at H
                obtain ⟨rfl, rfl⟩ := H
                have p108 : 0 ≤ (a1 : Int) := of_decide_eq_true (by first | (with_reducible assumption) | assumption)
                have q108 : a1 < (l0.length : Int) := of_decide_eq_true (by first | (with_reducible assumption) | assumption)
                obtain ⟨ad108, A108_1, c108_1, e108, hx108_0, hx108_1, hl108_1, hi108_1⟩ := at_T45 HR0.out a1 p108 q108
                cases e108
                replace hx108_0 := (HB.out.cell (World.block_lt_of_cell? w _ hx108_0)).trans hx108_0
                replace hx108_1 := (HB.out.cell (World.block_lt_of_cell? w _ hx108_1)).trans hx108_1
                have HR108_1 := Aside0.mk hi108_1
                have HC108_1 := Aside0.mk hl108_1
                clear hi108_1 hl108_1
                replace p108 := eq_true p108
                replace q108 := eq_true q108
                have p109 : 0 ≤ (a1 : Int) := of_decide_eq_true (by first | (with_reducible assumption) | assumption)
                have q109 : a1 < (l0.length : Int) := of_decide_eq_true (by first | (with_reducible assumption) | assumption)
                obtain ⟨ad109, A109_1, c109_1, e109, hx109_0, hx109_1, hl109_1, hi109_1⟩ := at_T45 HR0.out a1 p109 q109
                obtain rfl : ad108 = ad109 := (by injection e109)
                replace hx109_0 := (HB.out.cell (World.block_lt_of_cell? w _ hx109_0)).trans hx109_0
                replace hx109_1 := (HB.out.cell (World.block_lt_of_cell? w _ hx109_1)).trans hx109_1
                have HR109_1 := Aside0.mk hi109_1
                have HC109_1 := Aside0.mk hl109_1
                clear hi109_1 hl109_1
                replace p109 := eq_true p109
                replace q109 := eq_true q109
                have ea_ := Option.some.inj (hx108_1.symm.trans hx109_1)
                injection ea_ with ea_ en_ ec_
                subst ea_
                subst ec_
                clear en_
                have p111 : 0 ≤ (a1 : Int) := of_decide_eq_true (by first | (with_reducible assumption) | assumption)
                have q111 : a1 < (l0.length : Int) := of_decide_eq_true (by first | (with_reducible assumption) | assumption)
                obtain ⟨ad111, A111_1, c111_1, e111, hx111_0, hx111_1, hl111_1, hi111_1⟩ := at_T45 HR0.out a1 p111 q111
                obtain rfl : ad108 = ad111 := (by injection e111)
                replace hx111_0 := (HB.out.cell (World.block_lt_of_cell? w _ hx111_0)).trans hx111_0
                replace hx111_1 := (HB.out.cell (World.block_lt_of_cell? w _ hx111_1)).trans hx111_1
                have HR111_1 := Aside0.mk hi111_1
                have HC111_1 := Aside0.mk hl111_1
                clear hi111_1 hl111_1
                replace p111 := eq_true p111
                replace q111 := eq_true q111
                have ea_ := Option.some.inj (hx108_1.symm.trans hx111_1)
                injection ea_ with ea_ en_ ec_
                subst ea_
                subst ec_
                clear en_
                go_wp2_with (first | ((with_reducible refine gate_callee (f := 9) rfl ?_); refine gL (some 62) Try.func9 #[.slice (some ad108) l0.length c0, .int .i64 ((rd_T45 l0 a1).f0)] ?_; (with_reducible refine (impl_ChainOf.calls kj6 _ _ l0 ((rd_T45 l0 a1).f0) t112 _ ?side1 ?side2 A25.out).mono ?_); (case side1 => repeat (first | exact (Kd.C_below HR0.out HB.out) | (with_reducible refine Kd.C_alloc ?_ _) | (with_reducible refine Kd.C_drewN ?_ _) | (with_reducible refine Kd.C_drew ?_))); (case side2 => exact HC0.out); rintro e w33 ⟨v113, rfl, ho0, hb⟩; refine ⟨_, rfl, ?_⟩; have n0_ := aM (Kd.S_elder' (sq HO_8) (Kd.R_base ho0) hb); have n1_ := aM (Kd.R_lower ho0 (below_size (bq HB))); have n2_ := aM (below_step (bq HB) hb); clear HO_8 HB; have HO_8 := n0_; have HO114 := n1_; have HB := n2_; clear n0_ n1_ n2_; (try clear hb); (try clear hb2); (try clear hk); (try clear hi); (try clear ho0); obtain ⟨Ao34, co34, eo34⟩ := Kd.R_slice HO114.out; subst eo34) | ((with_reducible refine gate_callee (f := 35) rfl ?_); refine gL (some 64) Try.func35 #[.slice Ao34 t112.length co34, .int .i64 a2] ?_; (with_reducible refine (slices_Contains_int_int.calls kj6 _ _ t112 a2 false _ ?side1 ?side2 A26.out).mono ?_); (case side1 => repeat (first | exact (Kd.R_reads' HO114.out).2.2 | (with_reducible refine Kd.C_alloc ?_ _) | (with_reducible refine Kd.C_drewN ?_ _) | (with_reducible refine Kd.C_drew ?_))); (case side2 => exact (Kd.R_reads' HO114.out).2.1); rintro e w' ⟨rfl, ⟨nd, rfl⟩⟩; refine ⟨_, rfl, ?_⟩; (try (rw [drewN_self w33]; generalize hq_ : World.drewN w33 _ = w33; have n0_ : Aside0 (Kd.R (Kd.int .i64) 3 w33 w.heap.size (fun _ => True) (.slice Ao34 t112.length co34) t112) := ⟨by rw [← hq_]; exact (rq HO114)⟩; have n1_ : Aside0 (Kd.S k45 45 w33 w.heap.size (fun k_ => some k_ ≠ (.slice Ao34 t112.length co34 : Value).ownBlock) v103 t102) := ⟨by rw [← hq_]; exact (by (with_reducible repeat (first | apply Kd.S_alloc | apply Kd.S_drewN | apply Kd.S_drew)); exact Kd.S_mono HO_8.out (fun _ hk => hk.2))⟩; have n2_ : Aside0 (Below w.heap.size w w33) := ⟨by rw [← hq_]; exact (bq HB)⟩; clear HO114 HO_8 HB hq_; have HO114 := n0_; have HO_8 := n1_; have HB := n2_; clear n0_ n1_ n2_)); obtain ⟨Ao35, co35, eo35⟩ := Kd.S_slice HO_8.out; subst eo35; have p116 : 0 ≤ (a1 : Int) := of_decide_eq_true (by first | (with_reducible assumption) | assumption); have q116 : a1 < (t102.length : Int) := of_decide_eq_true (by first | (with_reducible assumption) | assumption); obtain ⟨ad116, A116_1, c116_1, e116, hx116_0, hx116_1, hl116_1, hi116_1⟩ := at_T45 (Kd.S_reads' HO_8.out).2.2 a1 p116 q116; cases e116; obtain ⟨ce116, hce116, hMe116, hcc116⟩ := Kd.S_get HO_8.out z45 a1 p116 (by first | exact q116 | exact of_decide_eq_true (by first | (with_reducible assumption) | assumption) | (have e_ := (Kd.S_reads' HO_8.out).1; omega)); obtain ⟨ve116_1, rfl, ge116_1⟩ := k45_openM hMe116; have hv116_1 := hcc116 1 _ rfl; rw [add_field _ _ 1 (by omega)] at hv116_1; replace hv116_1 := Option.some.inj (hv116_1.symm.trans hx116_1); rw [hv116_1] at ge116_1; have HL116_1 := aM (show Kd.R (Kd.int .i64) 3 _ _ _ _ ((rd_T45 t102 a1).f1) from ge116_1); clear hv116_1 ge116_1; have HX116_1 := Aside0.mk hx116_1; clear hcc116 hce116; have HR116_1 := Aside0.mk hi116_1; have HC116_1 := Aside0.mk hl116_1; clear hi116_1 hl116_1; replace p116 := eq_true p116; replace q116 := eq_true q116; obtain ⟨go36, co36, eo36, gb36, gl36, cl36, HG36⟩ := Kd.S_form HO_8.out (by have h_ : (a1 : Int) < ((t102.length : Int) : Int) := of_decide_eq_true (by first | (with_reducible assumption) | assumption); have h2_ : 0 ≤ (a1 : Int) := (of_decide_eq_true (by first | (with_reducible assumption) | assumption)); omega); (first | cases eo36 | (injection eo36 with ea_ en_ ec_; (first | subst ea_ | (injection ea_ with ea_; subst ea_)); subst ec_; clear en_)); have GB36 := Aside0.mk gb36; have GG36 := Aside0.mk HG36; clear gb36 gl36 HG36; (first | simp only [add_plain] at hx116_0 | skip); (first | simp only [add_plain] at hx116_1 | skip); obtain ⟨oki36, ce36, hcl36, hM36, hcc36, _, _, hH36⟩ := Kd.S_elem HO_8.out z45 (a1 : Int) (of_decide_eq_true (by first | (with_reducible assumption) | assumption)) (by have h_ : (a1 : Int) < ((t102.length : Int) : Int) := of_decide_eq_true (by first | (with_reducible assumption) | assumption); first | exact h_ | (have e_ := (Kd.S_reads' HO_8.out).1; omega) | simpa using h_); obtain ⟨ve36_1, rfl, ge36_1⟩ := k45_openM hM36; have hv36 := hcc36 1 _ rfl; have hX36 := HX116_1.out; (try simp only [add_plain] at hX36); (try simp only [Nat.add_zero] at hv36); replace hv36 := Option.some.inj (hv36.symm.trans hX36); subst hv36; clear hX36 hcc36 hcl36; have UU36 := aM (show Kd.R (Kd.int .i64) 3 _ w.heap.size oki36 (.slice A116_1 ((rd_T45 t102 a1).f1).length c116_1) ((rd_T45 t102 a1).f1) from ge36_1); have HH36 := Aside0.mk hH36; have HN36 := aM (Kd.S_reads' HO_8.out).1; clear hH36 ge36_1) | ((with_reducible refine gate_builtin (b := .append) (xs := #[.tmp 72, .tmp 74]) rfl ?_); at_builtin; refine Kd.R_append (Kd.int .i64) (w0 := w) w.heap.size rfl (.tmp 72) (.tmp 74) 24 3 (.int .i64 0) 8 rfl Try.underlying24 info3 rfl (by decide) (by omega) (.slice A116_1 ((rd_T45 t102 a1).f1).length c116_1) ((rd_T45 t102 a1).f1) a2 [.int .i64 a2] (fun k_ => oki36 k_ ∨ ((fun k_ => some k_ ≠ (.slice Ao34 t112.length co34 : Value).ownBlock)) k_ ∧ w33.heap.size ≤ k_) (fun _ => False) rfl rfl ?aP (fun _ hk => hk.elim) ?aF ?aO ?aB ?aS ?aL ?_; (case aP => exact rfl); (case aB => exact (bq HB)); (case aF => exact (fun k_ hk => .inr ⟨Kd.fresh' (Kd.R_lt (rq HO114)) k_ hk, hk⟩)); (case aO => exact (by (with_reducible repeat (first | apply Kd.R_alloc | apply Kd.R_drewN | apply Kd.R_drew)); exact Kd.R_mono UU36.out (fun _ hk => .inl hk))); (case aS => exact (below_size (bq HB))); (case aL => have := LMc31.out; omega); intro v118 w37 ho hb hg hat; rw [← Ny117.out] at ho; have n0_ := aM (Kd.R_grown2 (rq HO114) rfl hg (fun k_ e_ => (HL116_1.out.1 k_ e_).1)); have n1_ := aM (hb); have n2_ := aM (Kd.H_grown (Kd.H_widen (by repeat (first | exact HH36.out | refine Kd.H_alloc ?_ _ | refine Kd.H_drewN ?_ _ | refine Kd.H_drew ?_))) hg (fun k_ e_ => .inl (UU36.out.1 k_ e_))); have n3_ := aM (ho); clear HO114 HB HH36 HO_8 UU36 HL116_1; have HO114 := n0_; have HB := n1_; have HH36 := n2_; have HO119 := n3_; clear n0_ n1_ n2_ n3_; clear ho hb hg hat; have p32 : 0 ≤ (a1 : Int) := of_decide_eq_true (by first | (with_reducible assumption) | assumption); have q32 : (a1 : Int) < ((t102.length : Int) : Int) := of_decide_eq_true (by first | (with_reducible assumption) | assumption); replace p32 := eq_true p32; replace q32 := eq_true q32; obtain ⟨Ao40, co40, eo40⟩ := Kd.R_slice HO119.out; subst eo40; obtain ⟨_, _, hraw38, _, _, hcc38, _⟩ := Kd.H_raw HH36.out (of_decide_eq_true (by first | (with_reducible assumption) | assumption)) (by have h_ : (a1 : Int) < ((t102.length : Int) : Int) := of_decide_eq_true (by first | (with_reducible assumption) | assumption); first | exact h_ | (have e_ := (HN36.out); omega) | simpa using h_); obtain ⟨_, hfr38⟩ := Kd.H_at HH36.out (of_decide_eq_true (by first | (with_reducible assumption) | assumption)) (by have h_ : (a1 : Int) < ((t102.length : Int) : Int) := of_decide_eq_true (by first | (with_reducible assumption) | assumption); first | exact h_ | (have e_ := (HN36.out); omega) | simpa using h_); have hx38_0 := hcc38 1 _ rfl; have hf38_0 := hfr38 1; (try rw [show (k45).sz = 2 from rfl] at hx38_0); (try rw [show (k45).sz = 2 from rfl] at hf38_0); have HP38 := Kd.S_seg0 HH36.out (of_decide_eq_true (by first | (with_reducible assumption) | assumption)) (by have h_ : (a1 : Int) < ((t102.length : Int) : Int) := of_decide_eq_true (by first | (with_reducible assumption) | assumption); first | exact h_ | (have e_ := (HN36.out); omega) | simpa using h_) (seg := [.slice Ao40 y117.length co40]) (j := 1) (show 2 ≤ 2 from by decide) (x' := (⟨(rd_T45 t102 a1).f0, y117⟩ : S45)) (k45_mkM _ _ _ (⟨(rd_T45 t102 a1).f0, y117⟩ : S45) HO119.out) (fun _ hk => hk); clear hcc38 hfr38) | ((with_reducible refine gate_store (t := 24) (p := 77) rfl ?_); refine store_event (t := 24) (p := 77) (v := ?vo_w39) (w1 := (w37.setCell ⟨go36, (a1 : Int).toNat * 2 + 1, none⟩ (.slice Ao40 y117.length co40))) ?hg ?ho ?hn ?hr ?_; (case ho => rfl); (case hg => rfl); (case hn => rfl); (case hr => first | (go_simp; done) | (go_simp; rfl)); intro w39 hw; have hg : w37.grownBy w39 (some go36) := (by rw [hw]; exact HP38.2); have hp_ : Kd.S k45 45 w39 w.heap.size (fun k_ => some k_ ≠ (.slice Ao34 t112.length co34 : Value).ownBlock) (.slice (some ⟨go36, 0, none⟩) t102.length co35) y120 := (by rw [hw, Ny120.out]; exact HP38.1); clear HP38; have n0_ := aM (Kd.R_over' (v := (.slice (some ⟨go36, 0, none⟩) t102.length co35)) (rq HO114) (Kd.R_typed hraw38) (by decide) hg); have n1_ := aM ((by rw [hw]; exact below_set HB.out GB36.out : Below w.heap.size w w39)); have n2_ := aM (hp_); clear HO114 HB HO119 HH36; have HO114 := n0_; have HB := n1_; have HO_8 := n2_; clear n0_ n1_ n2_; clear hg hw hp_ hraw38))
                go_ret2
                exact ⟨_, by first | rfl | (simp <;> rfl) | (simp [*] <;> rfl), by (with_reducible repeat (first | apply Kd.S_alloc | apply Kd.S_drewN | apply Kd.S_drew)); exact Kd.S_mono HO_8.out (fun _ hk => trivial), bq HB⟩
              rw [if_neg c31] at H
              exact absurd H (by simp)
            rw [if_neg c30] at H
            exact absurd H (by simp)
          rw [if_neg c18] at H
          exact absurd H (by simp)
        rw [if_neg c17] at H
        exact absurd H (by simp)
  replace c5 := Bool.eq_false_iff.mpr c5
  subst c5
  have H1 : (some (([] : List (S45)), 2)) = some (r1, r2) := by rw [if_neg (show ¬ (false = true) by decide)] at H; exact H
  clear H
  have H := H1
  clear H1
  simp only [Option.some.injEq, Prod.mk.injEq] at H
  obtain ⟨rfl, rfl⟩ := H
  go_enter Try.func16, Try.ntmps16
  go_wp2_with (first | ((with_reducible refine gate_callee (f := 24) rfl ?_); refine gL (some 10) Try.func24 #[.slice A0 l0.length c0] ?_; (with_reducible refine (impl_LocksOk.calls k _ _ l0 false _ ?side1 ?side2 A4.out).mono ?_); (case side1 => repeat (first | exact HR0.out | (with_reducible refine Kd.C_alloc ?_ _) | (with_reducible refine Kd.C_drewN ?_ _) | (with_reducible refine Kd.C_drew ?_))); (case side2 => exact HC0.out); rintro e w41 ⟨rfl, hb⟩; refine ⟨_, rfl, ?_⟩; have n0_ := aM (below_step (bq HB) hb); clear HB; have HB := n0_; clear n0_; (try clear hb); (try clear hb2); (try clear hk); (try clear hi)))
  go_ret2
  exact ⟨_, by first | rfl | (simp <;> rfl) | (simp [*] <;> rfl), by first | exact Kd.S_nil _ _ _ _ _ | exact Kd.N_nil _ _ _ _ _ | exact Kd.V_nil _ _ _ _ _ | exact Kd.Q_nil _ _ _ _ _ | exact Kd.R_nil _ _ _ _ _, bq HB⟩

/-! ### laws_FnExactLockAsk: function 4, by hand -/
-- MANUAL rounds=yes making=yes
-- LAW
def laws_FnExactLockAsk.f (k : Nat) (l0 : List (S41)) (a1 : Int) (a2 : Int) : Option Bool := (laws_szLockS.f k l0 1048576).bind fun t => if t < 0 then some true else (laws_toLockS.f k l0).bind fun x => (spec_LockAsk.f k x a1 a2).bind fun s => (impl_LockAsk.f k x a1 a2).bind fun g => (laws_eqLockS.f k g.1 s.1).bind fun q1 => (laws_eqLockS.f k x x).bind fun q2 => (laws_markLockS.f k x 1).bind fun m => (laws_markLockS.f k g.1 1).bind fun n => (laws_heldLockS.f k n.2 1).bind fun h => if ((q1 = true ∧ q2 = true) ∧ g.2 = s.2) ∧ ¬ m.1 < 0 ∧ ¬ h < 0 ∧ h = n.1 then some true else none
set_option maxHeartbeats 8000000 in
set_option maxRecDepth 100000 in
theorem laws_FnExactLockAsk.calls (k : Nat) (A0 : Option Addr) (c0 : Nat) (l0 : List (S41)) (a1 : Int) (a2 : Int) (r : Bool) (w : World) (hr0 : Kd.C k41 w A0 l0.length l0) (hc0 : l0.length ≤ c0) (hrt : r = true) (h : laws_FnExactLockAsk.f k l0 a1 a2 = some r) :
    Calls Try.prog 4 #[.slice A0 l0.length c0, .int .i64 a1, .int .i64 a2] w fun e w' => e = .returned (.bool r) ∧ Below w.heap.size w w' := by
  have HR0 := Aside0.mk hr0
  have HC0 := Aside0.mk hc0
  clear hr0 hc0
  subst hrt
  unfold laws_FnExactLockAsk.f at h
  obtain ⟨t, A1, h⟩ := Option.bind_eq_some_iff.mp h
  have A1 := Aside0.mk A1
  have T1 : Aside0 True := ⟨trivial⟩
  by_cases ht : t < 0
  · have htd : decide (t < 0) = true := decide_eq_true ht
    clear h ht
    go_enter Try.func4, Try.ntmps4
    go_wp2_with (clear T1; go_at_call 6; refine (laws_szLockS.calls k A0 c0 l0 1048576 t w HR0.out HC0.out A1.out).mono ?_; rintro e w1 ⟨rfl, hb⟩; have HB := aM hb; have Z1 := aM hb.size; clear hb)
    all_goals go_ret
    all_goals exact ⟨rfl, HB.out⟩
  rw [if_neg ht] at h
  have htd : decide (t < 0) = false := decide_eq_false ht
  clear ht
  obtain ⟨x, A2, h⟩ := Option.bind_eq_some_iff.mp h
  obtain ⟨⟨s, s2⟩, A3, h⟩ := Option.bind_eq_some_iff.mp h
  obtain ⟨⟨g, g2⟩, A4, h⟩ := Option.bind_eq_some_iff.mp h
  obtain ⟨q1, A5, h⟩ := Option.bind_eq_some_iff.mp h
  obtain ⟨q2, A6, h⟩ := Option.bind_eq_some_iff.mp h
  obtain ⟨⟨m, xm⟩, A7, h⟩ := Option.bind_eq_some_iff.mp h
  obtain ⟨⟨n, gm⟩, A8, h⟩ := Option.bind_eq_some_iff.mp h
  obtain ⟨hh, A9, h⟩ := Option.bind_eq_some_iff.mp h
  split at h
  rotate_left
  · cases h
  rename_i hcnd
  clear h
  obtain ⟨⟨⟨hq1, hq2⟩, hs2⟩, hm0, hh0, hhn⟩ := hcnd
  subst hq1
  subst hq2
  have hs2 : g2 = s2 := hs2
  subst hs2
  have hm0 : ¬ m < 0 := hm0
  have hhn : hh = n := hhn
  subst hhn
  have hmd : decide (m < 0) = false := decide_eq_false hm0
  have hhd : decide (hh < 0) = false := decide_eq_false hh0
  clear hm0 hh0
  have A2 := Aside0.mk A2
  have A3 := Aside0.mk A3
  have A4 := Aside0.mk A4
  have A5 := Aside0.mk A5
  have A6 := Aside0.mk A6
  have A7 := Aside0.mk A7
  have A8 := Aside0.mk A8
  have A9 := Aside0.mk A9
  have T2 : Aside0 True := ⟨trivial⟩
  have T3 : Aside0 True := ⟨trivial⟩
  have T4 : Aside0 True := ⟨trivial⟩
  have T5 : Aside0 True := ⟨trivial⟩
  have T6 : Aside0 True := ⟨trivial⟩
  have T7 : Aside0 True := ⟨trivial⟩
  have T8 : Aside0 True := ⟨trivial⟩
  have T9 : Aside0 True := ⟨trivial⟩
  have T10 : Aside0 True := ⟨trivial⟩
  have T11 : Aside0 True := ⟨trivial⟩
  have T12 : Aside0 True := ⟨trivial⟩
  have T13 : Aside0 True := ⟨trivial⟩
  have T14 : Aside0 True := ⟨trivial⟩
  have T15 : Aside0 True := ⟨trivial⟩
  have T16 : Aside0 True := ⟨trivial⟩
  go_enter Try.func4, Try.ntmps4
  go_wp2_with (first | (clear T1; go_at_call 6; refine (laws_szLockS.calls k A0 c0 l0 1048576 t w HR0.out HC0.out A1.out).mono ?_; rintro e w1 ⟨rfl, hb⟩; have HB := aM hb; have Z1 := aM hb.size; clear hb) | (clear T2; go_at_call 8; refine (laws_toLockS.calls k A0 c0 l0 x w1 (Kd.C_below HR0.out HB.out) HC0.out A2.out).mono ?_; rintro e w2 ⟨v_, rfl, ho, hb⟩; have Z2 := aM hb.size; have Fa := aM (bornS ho HB.out.size); have HB := aM (below_step HB.out hb); obtain ⟨Va, ca, rfl, _, _⟩ := Kd.S_reads Fa.out; clear hb ho) | (clear T3; go_at_call 15; refine (spec_LockAsk.calls k Va ca x a1 a2 s g2 w2 (Kd.S_reads' Fa.out).2.2 (Kd.S_reads' Fa.out).2.1 A3.out).mono ?_; rintro e w3 ⟨v_, rfl, ho, hb⟩; have Z3 := aM hb.size; have Fa := aM (Kd.S_below Fa.out hb); have FGsa := aM (bornS ho HB.out.size); have HB := aM (below_step HB.out hb); obtain ⟨VGsa, cGsa, rfl, _, _⟩ := Kd.S_reads FGsa.out; clear hb ho) | (clear T4; go_at_call 8; refine (laws_toLockS.calls k A0 c0 l0 x w3 (Kd.C_below HR0.out HB.out) HC0.out A2.out).mono ?_; rintro e w4 ⟨v_, rfl, ho, hb⟩; have Z4 := aM hb.size; clear Fa; have FGsa := aM (Kd.S_below FGsa.out hb); have Fb := aM (bornS ho HB.out.size); have HB := aM (below_step HB.out hb); obtain ⟨Vb, cb, rfl, _, _⟩ := Kd.S_reads Fb.out; clear hb ho) | (clear T5; go_at_call 16; refine (impl_LockAsk.calls k Vb cb x a1 a2 g g2 w4 (Kd.S_reads' Fb.out).2.2 (Kd.S_reads' Fb.out).2.1 A4.out).mono ?_; rintro e w5 ⟨v_, rfl, ho, hb⟩; have Z5 := aM hb.size; have FGsa := aM (Kd.S_below FGsa.out hb); have Fb := aM (Kd.S_below Fb.out hb); have FGgb := aM (bornS ho HB.out.size); have HB := aM (below_step HB.out hb); obtain ⟨VGgb, cGgb, rfl, _, _⟩ := Kd.S_reads FGgb.out; clear hb ho) | (clear T6; go_at_call 11; refine (laws_eqLockS.calls k VGgb cGgb g VGsa cGsa s true w5 (Kd.S_reads' FGgb.out).2.2 (Kd.S_reads' FGgb.out).2.1 (Kd.S_reads' FGsa.out).2.2 (Kd.S_reads' FGsa.out).2.1 A5.out).mono ?_; rintro e w6 ⟨rfl, hb⟩; have Z6 := aM hb.size; have FGsa := aM (Kd.S_below FGsa.out hb); have Fb := aM (Kd.S_below Fb.out hb); have FGgb := aM (Kd.S_below FGgb.out hb); have HB := aM (below_step HB.out hb); clear hb) | (clear T7; go_at_call 8; refine (laws_toLockS.calls k A0 c0 l0 x w6 (Kd.C_below HR0.out HB.out) HC0.out A2.out).mono ?_; rintro e w7 ⟨v_, rfl, ho, hb⟩; have Z7 := aM hb.size; have FGsa := aM (Kd.S_below FGsa.out hb); have Fb := aM (Kd.S_below Fb.out hb); have FGgb := aM (Kd.S_below FGgb.out hb); have Fd := aM (bornS ho HB.out.size); have HB := aM (below_step HB.out hb); obtain ⟨Vd, cd, rfl, _, _⟩ := Kd.S_reads Fd.out; clear hb ho) | (clear T8; go_at_call 11; refine (laws_eqLockS.calls k Vb cb x Vd cd x true w7 (Kd.S_reads' Fb.out).2.2 (Kd.S_reads' Fb.out).2.1 (Kd.S_reads' Fd.out).2.2 (Kd.S_reads' Fd.out).2.1 A6.out).mono ?_; rintro e w8 ⟨rfl, hb⟩; have Z8 := aM hb.size; clear Fd; have FGsa := aM (Kd.S_below FGsa.out hb); have Fb := aM (Kd.S_below Fb.out hb); have FGgb := aM (Kd.S_below FGgb.out hb); have HB := aM (below_step HB.out hb); clear hb) | (clear T9; go_at_call 12; refine (laws_markLockS.calls k (fun k_ => w3.heap.size ≤ k_ ∧ k_ < w4.heap.size) (.slice Vb x.length cb) x 1 m xm w w8 HB.out Fb.out A7.out).mono ?_; rintro e w9 ⟨rfl, hy, hb, hk⟩; have Z9 := aM hk.1; have FGsa := aM (Kd.S_kept FGsa.out hk (fun k_ h1_ h2_ => Nat.lt_irrefl k_ (Nat.lt_of_lt_of_le h1_.2 (Nat.le_trans (Nat.le_refl _) h2_.1)))); have FGgb := aM (Kd.S_kept FGgb.out hk (fun k_ h1_ h2_ => Nat.lt_irrefl k_ (Nat.lt_of_lt_of_le h2_.2 (Nat.le_trans (Nat.le_refl _) h1_.1)))); have Fb := aM hy; have Nb := aM (Kd.S_reads' hy).1; have HB := aM hb; clear hb hk hy; clear Fb Nb) | (clear T10; go_at_call 11; refine (laws_eqLockS.calls k VGgb cGgb g VGsa cGsa s true w9 (Kd.S_reads' FGgb.out).2.2 (Kd.S_reads' FGgb.out).2.1 (Kd.S_reads' FGsa.out).2.2 (Kd.S_reads' FGsa.out).2.1 A5.out).mono ?_; rintro e w10 ⟨rfl, hb⟩; have Z10 := aM hb.size; have FGsa := aM (Kd.S_below FGsa.out hb); have FGgb := aM (Kd.S_below FGgb.out hb); have HB := aM (below_step HB.out hb); clear hb) | (clear T11; go_at_call 12; refine (laws_markLockS.calls k (fun k_ => w4.heap.size ≤ k_ ∧ k_ < w5.heap.size) (.slice VGgb g.length cGgb) g 1 hh gm w w10 HB.out FGgb.out A8.out).mono ?_; rintro e w11 ⟨rfl, hy, hb, hk⟩; have Z11 := aM hk.1; have FGsa := aM (Kd.S_kept FGsa.out hk (fun k_ h1_ h2_ => Nat.lt_irrefl k_ (Nat.lt_of_lt_of_le h1_.2 (Nat.le_trans Z4.out h2_.1)))); have FGgb := aM hy; have NGgb := aM (Kd.S_reads' hy).1; have HB := aM hb; clear hb hk hy) | (clear T12; go_at_call 17; refine ((by have c_ := laws_heldLockS.calls k VGgb cGgb gm 1 hh w11 (by have h_ := (Kd.S_reads' FGgb.out).2.2; exact h_) (by have h_ := (Kd.S_reads' FGgb.out); rw [← h_.1]; exact h_.2.1) A9.out; rw [← NGgb.out] at c_; exact c_ : Calls Try.prog 17 #[.slice VGgb g.length cGgb, .int .i64 1] w11 _)).mono ?_; rintro e w12 ⟨rfl, hd⟩; have hb := hd.below; have Z12 := aM hb.size; have FGsa := aM (Kd.S_below FGsa.out hb); have FGgb := aM (Kd.S_below FGgb.out hb); have HB := aM (below_step HB.out hb); clear hb hd) | (clear T13; go_at_call 8; refine (laws_toLockS.calls k A0 c0 l0 x w12 (Kd.C_below HR0.out HB.out) HC0.out A2.out).mono ?_; rintro e w13 ⟨v_, rfl, ho, hb⟩; have Z13 := aM hb.size; have FGsa := aM (Kd.S_below FGsa.out hb); have FGgb := aM (Kd.S_below FGgb.out hb); have Fe := aM (bornS ho HB.out.size); have HB := aM (below_step HB.out hb); obtain ⟨Ve, ce, rfl, _, _⟩ := Kd.S_reads Fe.out; clear hb ho) | (clear T14; go_at_call 16; refine (impl_LockAsk.calls k Ve ce x a1 a2 g g2 w13 (Kd.S_reads' Fe.out).2.2 (Kd.S_reads' Fe.out).2.1 A4.out).mono ?_; rintro e w14 ⟨v_, rfl, ho, hb⟩; have Z14 := aM hb.size; clear Fe; have FGsa := aM (Kd.S_below FGsa.out hb); have FGgb := aM (Kd.S_below FGgb.out hb); have FGh := aM (bornS ho HB.out.size); have HB := aM (below_step HB.out hb); obtain ⟨VGh, cGh, rfl, _, _⟩ := Kd.S_reads FGh.out; clear hb ho) | (clear T15; go_at_call 11; refine (laws_eqLockS.calls k VGh cGh g VGsa cGsa s true w14 (Kd.S_reads' FGh.out).2.2 (Kd.S_reads' FGh.out).2.1 (Kd.S_reads' FGsa.out).2.2 (Kd.S_reads' FGsa.out).2.1 A5.out).mono ?_; rintro e w15 ⟨rfl, hb⟩; have Z15 := aM hb.size; have FGsa := aM (Kd.S_below FGsa.out hb); have FGgb := aM (Kd.S_below FGgb.out hb); have FGh := aM (Kd.S_below FGh.out hb); have HB := aM (below_step HB.out hb); clear hb) | (clear T16; go_at_call 17; refine ((by have c_ := laws_heldLockS.calls k VGgb cGgb gm 1 hh w15 (by have h_ := (Kd.S_reads' FGgb.out).2.2; exact h_) (by have h_ := (Kd.S_reads' FGgb.out); rw [← h_.1]; exact h_.2.1) A9.out; rw [← NGgb.out] at c_; exact c_ : Calls Try.prog 17 #[.slice VGgb g.length cGgb, .int .i64 1] w15 _)).mono ?_; rintro e w16 ⟨rfl, hd⟩; have hb := hd.below; have Z16 := aM hb.size; have FGsa := aM (Kd.S_below FGsa.out hb); have FGgb := aM (Kd.S_below FGgb.out hb); have FGh := aM (Kd.S_below FGh.out hb); have HB := aM (below_step HB.out hb); clear hb hd))
  all_goals go_ret
  all_goals exact ⟨rfl, HB.out⟩
/-- THE ONE PURE STATEMENT of laws_FnExactLockAsk. -/
def laws_FnExactLockAsk.Pure : Prop := ∀ (l0 : List (S41)) (a1 : Int) (a2 : Int), l0.length ≤ maxLen → (∀ x ∈ l0, ok41 x) → (Lit.int .i64 a1).wf = true → (Lit.int .i64 a2).wf = true → ∃ k, laws_FnExactLockAsk.f k l0 a1 a2 = some true
theorem laws_FnExactLockAsk.walk (P : laws_FnExactLockAsk.Pure) (A0 : Option Addr) (c0 : Nat) (l0 : List (S41)) (a1 : Int) (a2 : Int) (w : World) (hr0 : Kd.C k41 w A0 l0.length l0) (hc0 : l0.length ≤ c0) (hm0 : l0.length ≤ maxLen) (hg0 : ∀ x ∈ l0, ok41 x) (w1 : (Lit.int .i64 a1).wf = true) (w2 : (Lit.int .i64 a2).wf = true) :
    Calls Try.prog 4 #[.slice A0 l0.length c0, .int .i64 a1, .int .i64 a2] w fun e w' => e = .returned (.bool true) ∧ Below w.heap.size w w' := by
  obtain ⟨k, h⟩ := P l0 a1 a2 hm0 hg0 w1 w2
  refine (laws_FnExactLockAsk.calls k A0 c0 l0 a1 a2 true w hr0 hc0 rfl h).mono ?_
  rintro e w' ⟨rfl, hd⟩
  exact ⟨rfl, hd⟩

end Go.Proofs.Ythabcadkaocciaa.Print
