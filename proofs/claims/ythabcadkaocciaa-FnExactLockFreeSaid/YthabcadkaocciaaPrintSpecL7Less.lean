/- Go functions as plain Lean functions, and that the Go code answers just as these, wherever they answer. Conditions: those of each theorem. Written by a program of this session (wip/patch.py). -/
import Derived.Lib.SliceRun
import Derived.Shelf.RegionOpenPlain
import Derived.Test.YthabcadkaocciaaPrint0
import Derived.Test.YthabcadkaocciaaPrintSlicesIndexIntInt
import Derived.Test.YthabcadkaocciaaPrintSpecL7Copy
import Derived.Test.YthabcadkaocciaaPrintSpecL7Waits
namespace Go.Proofs.Ythabcadkaocciaa.Print
open Go.RowKit Go.Proofs.Ythabcadkaocciaa.Base Go.Proofs.YthabcadkaocciaaW.PrintWords Go.Proofs.YthabcadkaocciaaW.PrintLast Go.Proofs.YthabcadkaocciaaW.PrintMore
attribute [local go_sem] max2_int min2_int max_two min_two max_three min_three max_four min_four   -- for this text's walks alone
set_option linter.unusedVariables false
set_option linter.unusedSimpArgs false

/-! ### spec_l7Less: function 36 -/
def spec_l7Less.l0 : Nat → List Int → Int → List Int → Int → Option (List Int)
  | 0, _, _, _, _ => none
  | k + 1, x0, x1, x5, x6 => if x6 < (x0.length : Int) then (if 0 ≤ x6 then (if (rd x0 x6) = x1 then (spec_l7Less.l0 k x0 x1 x5 (wrap64 (x6 + 1))) else (if x5.length < 17592186044416 then (spec_l7Less.l0 k x0 x1 (x5 ++ [rd x0 x6]) (wrap64 (x6 + 1))) else (none))) else (none)) else (some x5)
def spec_l7Less.f (k : Nat) (l0 : List Int) (a1 : Int) : Option (List Int) := spec_l7Less.l0 k l0 a1 (([] : List Int)) 0
theorem spec_l7Less.mono_l : ∀ k, (∀ y0 y1 y2 y3, LeO (spec_l7Less.l0 k y0 y1 y2 y3) (spec_l7Less.l0 (k + 1) y0 y1 y2 y3))
  | 0 => fun _ _ _ _ r h => by simp [spec_l7Less.l0] at h
  | k + 1 => by
    have ih0 := spec_l7Less.mono_l k
    intro y0 y1 y2 y3
    unfold spec_l7Less.l0
    repeat' first
    | (with_reducible exact ih0 _ _ _ _)
    | (with_reducible exact LeO.refl _)
    | (with_reducible exact LeO.none _)
    | (with_reducible refine LeO.ite ?_ ?_)
    | (with_reducible refine LeO.bind ?_ (fun _ => ?_))
    | exact ih0 _ _ _ _
    | exact LeO.none _
    | refine LeO.ite ?_ ?_
    | refine LeO.bind ?_ (fun _ => ?_)
theorem spec_l7Less.mono : ∀ a0 a1 k, LeO (spec_l7Less.f k a0 a1) (spec_l7Less.f (k + 1) a0 a1) := by
  intro a0 a1 k
  have ih0 := spec_l7Less.mono_l k
  unfold spec_l7Less.f
  repeat' first
      | (with_reducible exact ih0 _ _ _ _)
      | (with_reducible exact LeO.refl _)
      | (with_reducible exact LeO.none _)
      | (with_reducible refine LeO.ite ?_ ?_)
      | (with_reducible refine LeO.bind ?_ (fun _ => ?_))
      | exact ih0 _ _ _ _
      | exact LeO.none _
      | refine LeO.ite ?_ ?_
      | refine LeO.bind ?_ (fun _ => ?_)
set_option maxHeartbeats 8000000 in
set_option maxRecDepth 100000 in
theorem spec_l7Less.calls (k : Nat) (A0 : Option Addr) (c0 : Nat) (l0 : List Int) (a1 : Int) (r : List Int) (w : World) (hr0 : Kd.C (Kd.int .i64) w A0 l0.length l0) (hc0 : l0.length ≤ c0) (h : spec_l7Less.f k l0 a1 = some r) :
    Calls Try.prog 36 #[.slice A0 l0.length c0, .int .i64 a1] w fun e w' => ∃ v0_ : Value, e = .returned (v0_) ∧ Kd.R (Kd.int .i64) 3 w' w.heap.size (fun _ => True) v0_ r ∧ Below w.heap.size w w' := by
  have HR0 := Aside0.mk hr0
  have HC0 := Aside0.mk hc0
  clear hr0 hc0
  have HB := aM (Below.refl w.heap.size w)
  have H : (spec_l7Less.l0 k l0 a1 (([] : List Int)) 0) = some r := h
  clear h
  obtain ⟨y101, hy101⟩ : ∃ y_ : List Int, y_ = (([] : List Int)) := ⟨_, rfl⟩
  replace H : (spec_l7Less.l0 k l0 a1 y101 0) = some r := by first | (rw [hy101]; with_reducible exact H) | (have H2_ := (Option.bind_some _ _).symm.trans H; rw [hy101]; with_reducible exact H2_) | (have H2_ := (Option.bind_some _ _).symm.trans H; with_reducible exact H2_) | with_reducible exact H | (rw [hy101]; exact H) | exact H
  have Ny101 := Aside0.mk hy101
  clear hy101
  have H' := Aside0.mk H
  clear H
  go_enter Try.func36, Try.ntmps36
  go_wp2_with (first | ((with_reducible refine gate_dst (N := 7) rfl ?_); refine Kd.R_lit (Kd.int .i64) _ 3 ?hg (N := 7) ?hd (xs := ([] : List Int)) (inner := []) (ok := fun _ => True) (okp := fun _ => True) ?hr ?hp (fun _ hk => hk) trivial (Below.refl _ _) (Nat.le_refl _) (by simp) ?_; (case hd => rfl); (case hg => rfl); (case hr => first | (go_simp; done) | (go_simp; rfl)); (case hp => exact (Reps.none _ _)); intro v102 w3 ho4 hb hg_ hnew_; clear hg_ hnew_; (first | rw [← Ny101.out] at ho4 | (simp only [Int.reduceToNat] at ho4; rw [← Ny101.out] at ho4)); have n0_ := aM (Kd.R_lower ho4 (below_size (bq HB))); have n1_ := aM (below_step (bq HB) hb); clear HB; have HO103 := n0_; have HB := n1_; clear n0_ n1_; clear hb ho4))
  go_loopg [5, 6] k (fun kq v5 v6 w' => ∃ (x5_1 : List Int) (x6_1 : Int), v6 = .int .i64 x6_1 ∧ Aside0 (spec_l7Less.l0 kq l0 a1 x5_1 x6_1 = some r) ∧ Aside0 (kq ≤ k) ∧ Aside0 (Kd.R (Kd.int .i64) 3 w' w.heap.size (fun _ => True) v5 x5_1) ∧ Aside0 (Below w.heap.size w w'))
  case atStart => exact ⟨(y101), (0), (by first | rfl | (simp; done) | (simp [*]; done)), H', ⟨Nat.le_refl _⟩, ⟨by (with_reducible repeat (first | apply Kd.R_alloc | apply Kd.R_drewN | apply Kd.R_drew)); exact HO103.out⟩, ⟨bq HB⟩⟩
  case round =>
    clear H'
    try clear p2
    try clear c3
    obtain ⟨x5_1, x6_1, rfl, HA, HK1, HO_5, HB⟩ := hrel
    cases gk with
    | zero => exact absurd HA.out (by simp [spec_l7Less.l0])
    | succ k1 =>
      have H := HA.out
      clear HA
      simp only [spec_l7Less.l0] at H
      by_cases c5 : x6_1 < (l0.length : Int)
      · rw [if_pos c5] at H
        have c5b0 : decide (x6_1 < (l0.length : Int)) = true := decide_eq_true c5
        clear c5
        by_cases c6 : 0 ≤ x6_1
        · rw [if_pos c6] at H
          have c6b0 : decide (0 ≤ x6_1) = true := decide_eq_true c6
          clear c6
          by_cases c7 : (rd l0 x6_1) = a1
          · rw [if_pos c7] at H
            have c7b0 : ((rd l0 x6_1) == a1) = true := beq_iff_eq.mpr c7
            have c7b1 : ((rd l0 x6_1) != a1) = false := bne_eq_false_iff_eq.mpr c7
            clear c7
            have H' := Aside0.mk H
            clear H
            have p104 : 0 ≤ (x6_1 : Int) := of_decide_eq_true (by first | (with_reducible assumption) | assumption)
            have q104 : x6_1 < (l0.length : Int) := of_decide_eq_true (by first | (with_reducible assumption) | assumption)
            obtain ⟨ad104, e104, hx104_0⟩ := Kd.at_int HR0.out x6_1 p104 q104
            cases e104
            replace hx104_0 := (HB.out.cell (World.block_lt_of_cell? w _ hx104_0)).trans hx104_0
            replace p104 := eq_true p104
            replace q104 := eq_true q104
            go_wp2
            go_roundg k1
            case measure => have := HK1.out; omega
            case rel => exact ⟨(x5_1), (wrap64 (x6_1 + 1)), (by first | rfl | (simp; done) | (simp [*]; done)), H', ⟨by have := HK1.out; omega⟩, ⟨by (with_reducible repeat (first | apply Kd.R_alloc | apply Kd.R_drewN | apply Kd.R_drew)); exact HO_5.out⟩, ⟨bq HB⟩⟩
          rw [if_neg c7] at H
          have c7b0 : ((rd l0 x6_1) == a1) = false := beq_eq_false_iff_ne.mpr c7
          have c7b1 : ((rd l0 x6_1) != a1) = true := bne_iff_ne.mpr c7
          by_cases c8 : x5_1.length < 17592186044416
          · rw [if_pos c8] at H
            have LMc8 := Aside0.mk c8
            clear c8
            obtain ⟨y106, hy106⟩ : ∃ y_ : List Int, y_ = (x5_1 ++ [rd l0 x6_1]) := ⟨_, rfl⟩
            replace H : (spec_l7Less.l0 k1 l0 a1 y106 (wrap64 (x6_1 + 1))) = some r := by first | (rw [hy106]; with_reducible exact H) | (have H2_ := (Option.bind_some _ _).symm.trans H; rw [hy106]; with_reducible exact H2_) | (have H2_ := (Option.bind_some _ _).symm.trans H; with_reducible exact H2_) | with_reducible exact H | (rw [hy106]; exact H) | exact H
            have Ny106 := Aside0.mk hy106
            clear hy106
            have H' := Aside0.mk H
            clear H
            have p104 : 0 ≤ (x6_1 : Int) := of_decide_eq_true (by first | (with_reducible assumption) | assumption)
            have q104 : x6_1 < (l0.length : Int) := of_decide_eq_true (by first | (with_reducible assumption) | assumption)
            obtain ⟨ad104, e104, hx104_0⟩ := Kd.at_int HR0.out x6_1 p104 q104
            cases e104
            replace hx104_0 := (HB.out.cell (World.block_lt_of_cell? w _ hx104_0)).trans hx104_0
            replace p104 := eq_true p104
            replace q104 := eq_true q104
            have p105 : 0 ≤ (x6_1 : Int) := of_decide_eq_true (by first | (with_reducible assumption) | assumption)
            have q105 : x6_1 < (l0.length : Int) := of_decide_eq_true (by first | (with_reducible assumption) | assumption)
            obtain ⟨ad105, e105, hx105_0⟩ := Kd.at_int HR0.out x6_1 p105 q105
            obtain rfl : ad104 = ad105 := (by injection e105)
            replace hx105_0 := (HB.out.cell (World.block_lt_of_cell? w _ hx105_0)).trans hx105_0
            replace p105 := eq_true p105
            replace q105 := eq_true q105
            go_wp2_with (first | ((with_reducible refine gate_builtin (b := .append) (xs := #[.tmp 20, .tmp 25]) rfl ?_); at_builtin; refine Kd.R_append (Kd.int .i64) (w0 := w) w.heap.size rfl (.tmp 20) (.tmp 25) 24 3 (.int .i64 0) 8 rfl Try.underlying24 info3 rfl (by decide) (by omega) u5 x5_1 (rd l0 x6_1) [.int .i64 (rd l0 x6_1)] (fun _ => True) (fun _ => False) rfl rfl ?aP (fun _ hk => hk.elim) ?aF ?aO ?aB ?aS ?aL ?_; (case aP => exact rfl); (case aB => exact (bq HB)); (case aF => exact (fun _ _ => trivial)); (case aO => exact (rq HO_5)); (case aS => exact (below_size (bq HB))); (case aL => have := LMc8.out; omega); intro v107 w9 ho hb hg hat; rw [← Ny106.out] at ho; have n0_ := aM (hb); have n1_ := aM (ho); clear HB HO_5; have HB := n0_; have HO108 := n1_; clear n0_ n1_; clear ho hb hg hat))
            go_roundg k1
            case measure => have := HK1.out; omega
            case rel => exact ⟨(y106), (wrap64 (x6_1 + 1)), (by first | rfl | (simp; done) | (simp [*]; done)), H', ⟨by have := HK1.out; omega⟩, ⟨by (with_reducible repeat (first | apply Kd.R_alloc | apply Kd.R_drewN | apply Kd.R_drew)); exact HO108.out⟩, ⟨bq HB⟩⟩
          rw [if_neg c8] at H
          exact absurd H (by simp)
        rw [if_neg c6] at H
        exact absurd H (by simp)
      rw [if_neg c5] at H
      have c5b0 : decide (x6_1 < (l0.length : Int)) = false := decide_eq_false c5
      clear c5
      obtain rfl := Option.some.inj H
      go_wp2
      go_ret
      exact ⟨_, by first | rfl | (simp <;> rfl) | (simp [*] <;> rfl), by (with_reducible repeat (first | apply Kd.R_alloc | apply Kd.R_drewN | apply Kd.R_drew)); exact HO_5.out, bq HB⟩

/-! ### spec_LockFree: function 18 -/
def spec_LockFree.j0 : Nat → List (S45) → Int → Int → List (S45) → Bool → Option ((List (S45)) × Bool)
  | 0, _, _, _, _, _ => none
  | k + 1, x0, x1, x3, x10, x36 => if x36 = true then (some (x10, false)) else (if 0 ≤ x1 then (if x1 < (x0.length : Int) then (if (((rd_T45 x0 x1).f1).length : Int) = 0 then (if x3 = 0 then (if (((rd_T45 x0 x1).f1).length : Int) > 0 then ((spec_l7Has.f k ((rd_T45 x0 x1).f1) x3).bind fun t111 => (if t111 = true then ((spec_l7Less.f k ((rd_T45 x0 x1).f1) x3).bind fun t112 => (if x1 < (x10.length : Int) then (some ((x10.set (x1 : Int).toNat (⟨x3, t112⟩ : S45)), true)) else (none))) else (some (x10, false)))) else ((spec_l7Less.f k ((rd_T45 x0 x1).f1) x3).bind fun t116 => (if x1 < (x10.length : Int) then (some ((x10.set (x1 : Int).toNat (⟨x3, t116⟩ : S45)), true)) else (none)))) else (some (x10, false))) else (if (((rd_T45 x0 x1).f1).length : Int) > 0 then ((spec_l7Has.f k ((rd_T45 x0 x1).f1) x3).bind fun t120 => (if t120 = true then ((spec_l7Less.f k ((rd_T45 x0 x1).f1) x3).bind fun t121 => (if x1 < (x10.length : Int) then (some ((x10.set (x1 : Int).toNat (⟨x3, t121⟩ : S45)), true)) else (none))) else (some (x10, false)))) else ((spec_l7Less.f k ((rd_T45 x0 x1).f1) x3).bind fun t125 => (if x1 < (x10.length : Int) then (some ((x10.set (x1 : Int).toNat (⟨x3, t125⟩ : S45)), true)) else (none))))) else (none)) else (none))
def spec_LockFree.f (k : Nat) (l0 : List (S45)) (a1 : Int) (a2 : Int) (a3 : Int) : Option ((List (S45)) × Bool) := (spec_LocksOk.f k l0).bind fun t101 => (if t101 = true then ((spec_l7Copy.f k l0).bind fun t105 => ((spec_l1In.f a1 0 (wrap64 ((l0.length : Int) - 1))).bind fun t108 => (if t108 = true then (if a2 = 0 then (spec_LockFree.j0 k l0 a1 a3 t105 true) else (if 0 ≤ a1 then (if a1 < (l0.length : Int) then (spec_LockFree.j0 k l0 a1 a3 t105 (((rd_T45 l0 a1).f0) != a2)) else (none)) else (none))) else (spec_LockFree.j0 k l0 a1 a3 t105 true)))) else (some ((([] : List (S45))), false)))
theorem spec_LockFree.mono_l : ∀ k, (∀ y0 y1 y2 y3 y4, LeO (spec_LockFree.j0 k y0 y1 y2 y3 y4) (spec_LockFree.j0 (k + 1) y0 y1 y2 y3 y4))
  | 0 => fun _ _ _ _ _ r h => by simp [spec_LockFree.j0] at h
  | k + 1 => by
    have ih0 := spec_LockFree.mono_l k
    intro y0 y1 y2 y3 y4
    unfold spec_LockFree.j0
    repeat' first
    | (with_reducible exact ih0 _ _ _ _ _)
    | (with_reducible exact spec_LocksOk.mono _ _)
    | (with_reducible exact spec_l7Copy.mono _ _)
    | (with_reducible exact spec_l7Has.mono _ _ _)
    | (with_reducible exact spec_l7Less.mono _ _ _)
    | (with_reducible exact LeO.refl _)
    | (with_reducible exact LeO.none _)
    | (with_reducible refine LeO.ite ?_ ?_)
    | (with_reducible refine LeO.bind ?_ (fun _ => ?_))
    | exact ih0 _ _ _ _ _
    | exact spec_LocksOk.mono _ _
    | exact spec_l7Copy.mono _ _
    | exact spec_l7Has.mono _ _ _
    | exact spec_l7Less.mono _ _ _
    | exact LeO.none _
    | refine LeO.ite ?_ ?_
    | refine LeO.bind ?_ (fun _ => ?_)
theorem spec_LockFree.mono : ∀ a0 a1 a2 a3 k, LeO (spec_LockFree.f k a0 a1 a2 a3) (spec_LockFree.f (k + 1) a0 a1 a2 a3) := by
  intro a0 a1 a2 a3 k
  have ih0 := spec_LockFree.mono_l k
  unfold spec_LockFree.f
  repeat' first
      | (with_reducible exact ih0 _ _ _ _ _)
      | (with_reducible exact spec_LocksOk.mono _ _)
      | (with_reducible exact spec_l7Copy.mono _ _)
      | (with_reducible exact spec_l7Has.mono _ _ _)
      | (with_reducible exact spec_l7Less.mono _ _ _)
      | (with_reducible exact LeO.refl _)
      | (with_reducible exact LeO.none _)
      | (with_reducible refine LeO.ite ?_ ?_)
      | (with_reducible refine LeO.bind ?_ (fun _ => ?_))
      | exact ih0 _ _ _ _ _
      | exact spec_LocksOk.mono _ _
      | exact spec_l7Copy.mono _ _
      | exact spec_l7Has.mono _ _ _
      | exact spec_l7Less.mono _ _ _
      | exact LeO.none _
      | refine LeO.ite ?_ ?_
      | refine LeO.bind ?_ (fun _ => ?_)
set_option maxHeartbeats 8000000 in
set_option maxRecDepth 100000 in
theorem spec_LockFree.calls (k : Nat) (A0 : Option Addr) (c0 : Nat) (l0 : List (S45)) (a1 : Int) (a2 : Int) (a3 : Int) (r1 : List (S45)) (r2 : Bool) (w : World) (hr0 : Kd.C k45 w A0 l0.length l0) (hc0 : l0.length ≤ c0) (h : spec_LockFree.f k l0 a1 a2 a3 = some (r1, r2)) :
    Calls Try.prog 18 #[.slice A0 l0.length c0, .int .i64 a1, .int .i64 a2, .int .i64 a3] w fun e w' => ∃ v0_ : Value, e = .returned (.tuple #[v0_, .bool r2]) ∧ Kd.S k45 45 w' w.heap.size (fun _ => True) v0_ r1 ∧ Below w.heap.size w w' := by
  have hu45 := Try.underlying45
  have HR0 := Aside0.mk hr0
  have HC0 := Aside0.mk hc0
  clear hr0 hc0
  have HB := aM (Below.refl w.heap.size w)
  have H : ((spec_LocksOk.f k l0).bind fun t101 => (if t101 = true then ((spec_l7Copy.f k l0).bind fun t105 => ((spec_l1In.f a1 0 (wrap64 ((l0.length : Int) - 1))).bind fun t108 => (if t108 = true then (if a2 = 0 then (spec_LockFree.j0 k l0 a1 a3 t105 true) else (if 0 ≤ a1 then (if a1 < (l0.length : Int) then (spec_LockFree.j0 k l0 a1 a3 t105 (((rd_T45 l0 a1).f0) != a2)) else (none)) else (none))) else (spec_LockFree.j0 k l0 a1 a3 t105 true)))) else (some ((([] : List (S45))), false)))) = some (r1, r2) := h
  clear h
  replace H := Option.bind_eq_some_iff.mp H
  obtain ⟨t101, A50, H⟩ := H
  replace H : (if t101 = true then ((spec_l7Copy.f k l0).bind fun t105 => ((spec_l1In.f a1 0 (wrap64 ((l0.length : Int) - 1))).bind fun t108 => (if t108 = true then (if a2 = 0 then (spec_LockFree.j0 k l0 a1 a3 t105 true) else (if 0 ≤ a1 then (if a1 < (l0.length : Int) then (spec_LockFree.j0 k l0 a1 a3 t105 (((rd_T45 l0 a1).f0) != a2)) else (none)) else (none))) else (spec_LockFree.j0 k l0 a1 a3 t105 true)))) else (some ((([] : List (S45))), false))) = some (r1, r2) := H
  have A5 := Aside0.mk A50
  clear A50
  by_cases c6 : t101 = true
  · subst c6
    have H1 : ((spec_l7Copy.f k l0).bind fun t105 => ((spec_l1In.f a1 0 (wrap64 ((l0.length : Int) - 1))).bind fun t108 => (if t108 = true then (if a2 = 0 then (spec_LockFree.j0 k l0 a1 a3 t105 true) else (if 0 ≤ a1 then (if a1 < (l0.length : Int) then (spec_LockFree.j0 k l0 a1 a3 t105 (((rd_T45 l0 a1).f0) != a2)) else (none)) else (none))) else (spec_LockFree.j0 k l0 a1 a3 t105 true)))) = some (r1, r2) := by rw [if_pos rfl] at H; exact H
    clear H
    have H := H1
    clear H1
    replace H := Option.bind_eq_some_iff.mp H
    obtain ⟨t105, A70, H⟩ := H
    replace H : ((spec_l1In.f a1 0 (wrap64 ((l0.length : Int) - 1))).bind fun t108 => (if t108 = true then (if a2 = 0 then (spec_LockFree.j0 k l0 a1 a3 t105 true) else (if 0 ≤ a1 then (if a1 < (l0.length : Int) then (spec_LockFree.j0 k l0 a1 a3 t105 (((rd_T45 l0 a1).f0) != a2)) else (none)) else (none))) else (spec_LockFree.j0 k l0 a1 a3 t105 true))) = some (r1, r2) := H
    have A7 := Aside0.mk A70
    clear A70
    have HC8 := Aside0.mk H
    clear H
    go_enter Try.func18, Try.ntmps18
    go_upto_region 4 with (first | ((with_reducible refine gate_callee (f := 21) rfl ?_); refine gL (some 13) Try.func21 #[.slice A0 l0.length c0] ?_; (with_reducible refine (spec_LocksOk.calls k _ _ l0 true _ ?side1 ?side2 A5.out).mono ?_); (case side1 => repeat (first | exact HR0.out | (with_reducible refine Kd.C_alloc ?_ _) | (with_reducible refine Kd.C_drewN ?_ _) | (with_reducible refine Kd.C_drew ?_))); (case side2 => exact HC0.out); rintro e w9 ⟨rfl, hb⟩; refine ⟨_, rfl, ?_⟩; have n0_ := aM (below_step (bq HB) hb); clear HB; have HB := n0_; clear n0_; (try clear hb); (try clear hb2); (try clear hk); (try clear hi)) | ((with_reducible refine gate_callee (f := 27) rfl ?_); refine gL (some 17) Try.func27 #[.slice A0 l0.length c0] ?_; (with_reducible refine (spec_l7Copy.calls k _ _ l0 t105 _ ?side1 ?side2 A7.out).mono ?_); (case side1 => repeat (first | exact (Kd.C_below HR0.out HB.out) | (with_reducible refine Kd.C_alloc ?_ _) | (with_reducible refine Kd.C_drewN ?_ _) | (with_reducible refine Kd.C_drew ?_))); (case side2 => exact HC0.out); rintro e w10 ⟨v106, rfl, ho0, hb⟩; refine ⟨_, rfl, ?_⟩; have n0_ := aM (Kd.S_lower ho0 (below_size (bq HB))); have n1_ := aM (below_step (bq HB) hb); clear HB; have HO107 := n0_; have HB := n1_; clear n0_ n1_; (try clear hb); (try clear hb2); (try clear hk); (try clear hi); (try clear ho0)))
    (try simp only [Act.put, tA, tB, tC])
    go_cut [36] (fun v36 wc => ∃ (kq : Nat) (x36_7 : Bool), v36 = .bool x36_7 ∧ Aside0 (spec_LockFree.j0 kq l0 a1 a3 t105 x36_7 = some (r1, r2)) ∧ Aside0 (kq ≤ k) ∧ Aside0 (Kd.S k45 45 wc w.heap.size (fun _ => True) v106 t105) ∧ Aside0 (Below w.heap.size w wc))
    case first =>
      have H := HC8.out
      clear HC8
      replace H := Option.bind_eq_some_iff.mp H
      obtain ⟨t108, A110, H⟩ := H
      replace H : (if t108 = true then (if a2 = 0 then (spec_LockFree.j0 k l0 a1 a3 t105 true) else (if 0 ≤ a1 then (if a1 < (l0.length : Int) then (spec_LockFree.j0 k l0 a1 a3 t105 (((rd_T45 l0 a1).f0) != a2)) else (none)) else (none))) else (spec_LockFree.j0 k l0 a1 a3 t105 true)) = some (r1, r2) := H
      have A11 := Aside0.mk A110
      clear A110
      by_cases c12 : t108 = true
      · subst c12
        have H1 : (if a2 = 0 then (spec_LockFree.j0 k l0 a1 a3 t105 true) else (if 0 ≤ a1 then (if a1 < (l0.length : Int) then (spec_LockFree.j0 k l0 a1 a3 t105 (((rd_T45 l0 a1).f0) != a2)) else (none)) else (none))) = some (r1, r2) := by rw [if_pos rfl] at H; exact H
        clear H
        have H := H1
        clear H1
        by_cases c13 : a2 = 0
        · rw [if_pos c13] at H
          have c13b0 : (a2 == 0) = true := beq_iff_eq.mpr c13
          have c13b1 : (a2 != 0) = false := bne_eq_false_iff_eq.mpr c13
          clear c13
          (first | rw [c13b0] | (simp only [i64_w, i32_w]; rw [c13b0]) | skip)
          have H' := Aside0.mk H
          clear H
          go_wp2_with (first | ((with_reducible refine gate_callee (f := 28) rfl ?_); refine gL (some 22) Try.func28 #[.int .i64 a1, .int .i64 0, .int .i64 (wrap64 ((l0.length : Int) - 1))] ?_; (with_reducible refine (spec_l1In.calls a1 0 (wrap64 ((l0.length : Int) - 1)) true _ A11.out).mono ?_); rintro e w' ⟨rfl, ⟨nd, rfl⟩⟩; refine ⟨_, rfl, ?_⟩))
          go_meet
          case rel => exact ⟨_, (true), (by first | rfl | (simp; done) | (simp [*]; done)), H', ⟨by first | omega | exact Nat.le_refl _⟩, ⟨by (with_reducible repeat (first | apply Kd.S_alloc | apply Kd.S_drewN | apply Kd.S_drew)); exact HO107.out⟩, ⟨bq HB⟩⟩
        rw [if_neg c13] at H
        have c13b0 : (a2 == 0) = false := beq_eq_false_iff_ne.mpr c13
        have c13b1 : (a2 != 0) = true := bne_iff_ne.mpr c13
        (first | rw [c13b0] | (simp only [i64_w, i32_w]; rw [c13b0]) | skip)
        by_cases c14 : 0 ≤ a1
        · rw [if_pos c14] at H
          have c14b0 : decide (0 ≤ a1) = true := decide_eq_true c14
          clear c14
          by_cases c15 : a1 < (l0.length : Int)
          · rw [if_pos c15] at H
            have c15b0 : decide (a1 < (l0.length : Int)) = true := decide_eq_true c15
            clear c15
            have H' := Aside0.mk H
            clear H
            go_wp2_with (first | ((with_reducible refine gate_callee (f := 28) rfl ?_); refine gL (some 22) Try.func28 #[.int .i64 a1, .int .i64 0, .int .i64 (wrap64 ((l0.length : Int) - 1))] ?_; (with_reducible refine (spec_l1In.calls a1 0 (wrap64 ((l0.length : Int) - 1)) true _ A11.out).mono ?_); rintro e w' ⟨rfl, ⟨nd, rfl⟩⟩; refine ⟨_, rfl, ?_⟩; have p109 : 0 ≤ (a1 : Int) := of_decide_eq_true (by first | (with_reducible assumption) | assumption); have q109 : a1 < (l0.length : Int) := of_decide_eq_true (by first | (with_reducible assumption) | assumption); obtain ⟨ad109, A109_1, c109_1, e109, hx109_0, hx109_1, hl109_1, hi109_1⟩ := at_T45 HR0.out a1 p109 q109; cases e109; replace hx109_0 := (HB.out.cell (World.block_lt_of_cell? w _ hx109_0)).trans hx109_0; replace hx109_1 := (HB.out.cell (World.block_lt_of_cell? w _ hx109_1)).trans hx109_1; have HR109_1 := Aside0.mk hi109_1; have HC109_1 := Aside0.mk hl109_1; clear hi109_1 hl109_1; replace p109 := eq_true p109; replace q109 := eq_true q109))
            go_meet
            case rel => exact ⟨_, ((((rd_T45 l0 a1).f0) != a2)), (by first | rfl | (simp; done) | (simp [*]; done)), H', ⟨by first | omega | exact Nat.le_refl _⟩, ⟨by (with_reducible repeat (first | apply Kd.S_alloc | apply Kd.S_drewN | apply Kd.S_drew)); exact HO107.out⟩, ⟨bq HB⟩⟩
          rw [if_neg c15] at H
          exact absurd H (by simp)
        rw [if_neg c14] at H
        exact absurd H (by simp)
      replace c12 := Bool.eq_false_iff.mpr c12
      subst c12
      have H1 : (spec_LockFree.j0 k l0 a1 a3 t105 true) = some (r1, r2) := by rw [if_neg (show ¬ (false = true) by decide)] at H; exact H
      clear H
      have H := H1
      clear H1
      have H' := Aside0.mk H
      clear H
      go_wp2_with (first | ((with_reducible refine gate_callee (f := 28) rfl ?_); refine gL (some 22) Try.func28 #[.int .i64 a1, .int .i64 0, .int .i64 (wrap64 ((l0.length : Int) - 1))] ?_; (with_reducible refine (spec_l1In.calls a1 0 (wrap64 ((l0.length : Int) - 1)) false _ A11.out).mono ?_); rintro e w' ⟨rfl, ⟨nd, rfl⟩⟩; refine ⟨_, rfl, ?_⟩))
      go_meet
      case rel => exact ⟨_, (true), (by first | rfl | (simp; done) | (simp [*]; done)), H', ⟨by first | omega | exact Nat.le_refl _⟩, ⟨by (with_reducible repeat (first | apply Kd.S_alloc | apply Kd.S_drewN | apply Kd.S_drew)); exact HO107.out⟩, ⟨bq HB⟩⟩
    case rest =>
      clear HC8
      try clear c1
      try clear p1
      try clear q1
      try clear hx1
      try clear c2
      try clear p2
      try clear c6
      try clear p6
      try clear c10
      try clear p10
      try clear q10
      try clear hx10
      try clear c12
      try clear c13
      try clear c13b0
      try clear c13b1
      try clear c14
      try clear c14b0
      try clear c15
      try clear c15b0
      try clear hx109_0
      try clear hx109_1
      try clear p109
      try clear q109
      obtain ⟨kq, x36_7, rfl, HA, HJ7, HO_10, HB⟩ := hcut
      cases kq with
      | zero => exact absurd HA.out (by simp [spec_LockFree.j0])
      | succ kj7 =>
        have H := HA.out
        clear HA
        simp only [spec_LockFree.j0] at H
        by_cases c16 : x36_7 = true
        · subst c16
          have H1 : (some (t105, false)) = some (r1, r2) := by rw [if_pos rfl] at H; exact H
          clear H
          have H := H1
          clear H1
          simp only [Option.some.injEq, Prod.mk.injEq] at H
          obtain ⟨rfl, rfl⟩ := H
          go_wp2
          go_ret2
          exact ⟨_, by first | rfl | (simp <;> rfl) | (simp [*] <;> rfl), by (with_reducible repeat (first | apply Kd.S_alloc | apply Kd.S_drewN | apply Kd.S_drew)); exact HO_10.out, bq HB⟩
        replace c16 := Bool.eq_false_iff.mpr c16
        subst c16
        have H1 : (if 0 ≤ a1 then (if a1 < (l0.length : Int) then (if (((rd_T45 l0 a1).f1).length : Int) = 0 then (if a3 = 0 then (if (((rd_T45 l0 a1).f1).length : Int) > 0 then ((spec_l7Has.f kj7 ((rd_T45 l0 a1).f1) a3).bind fun t111 => (if t111 = true then ((spec_l7Less.f kj7 ((rd_T45 l0 a1).f1) a3).bind fun t112 => (if a1 < (t105.length : Int) then (some ((t105.set (a1 : Int).toNat (⟨a3, t112⟩ : S45)), true)) else (none))) else (some (t105, false)))) else ((spec_l7Less.f kj7 ((rd_T45 l0 a1).f1) a3).bind fun t116 => (if a1 < (t105.length : Int) then (some ((t105.set (a1 : Int).toNat (⟨a3, t116⟩ : S45)), true)) else (none)))) else (some (t105, false))) else (if (((rd_T45 l0 a1).f1).length : Int) > 0 then ((spec_l7Has.f kj7 ((rd_T45 l0 a1).f1) a3).bind fun t120 => (if t120 = true then ((spec_l7Less.f kj7 ((rd_T45 l0 a1).f1) a3).bind fun t121 => (if a1 < (t105.length : Int) then (some ((t105.set (a1 : Int).toNat (⟨a3, t121⟩ : S45)), true)) else (none))) else (some (t105, false)))) else ((spec_l7Less.f kj7 ((rd_T45 l0 a1).f1) a3).bind fun t125 => (if a1 < (t105.length : Int) then (some ((t105.set (a1 : Int).toNat (⟨a3, t125⟩ : S45)), true)) else (none))))) else (none)) else (none)) = some (r1, r2) := by rw [if_neg (show ¬ (false = true) by decide)] at H; exact H
        clear H
        have H := H1
        clear H1
        by_cases c17 : 0 ≤ a1
        · rw [if_pos c17] at H
          have c17b0 : decide (0 ≤ a1) = true := decide_eq_true c17
          clear c17
          by_cases c18 : a1 < (l0.length : Int)
          · rw [if_pos c18] at H
            have c18b0 : decide (a1 < (l0.length : Int)) = true := decide_eq_true c18
            clear c18
            by_cases c19 : (((rd_T45 l0 a1).f1).length : Int) = 0
            · rw [if_pos c19] at H
              have c19b0 : ((((rd_T45 l0 a1).f1).length : Int) == 0) = true := beq_iff_eq.mpr c19
              have c19b1 : ((((rd_T45 l0 a1).f1).length : Int) != 0) = false := bne_eq_false_iff_eq.mpr c19
              clear c19
              by_cases c20 : a3 = 0
              · rw [if_pos c20] at H
                have c20b0 : (a3 == 0) = true := beq_iff_eq.mpr c20
                have c20b1 : (a3 != 0) = false := bne_eq_false_iff_eq.mpr c20
                clear c20
                by_cases c21 : (((rd_T45 l0 a1).f1).length : Int) > 0
                · rw [if_pos c21] at H
                  have c21b0 : decide (0 < (((rd_T45 l0 a1).f1).length : Int)) = true := decide_eq_true c21
                  have c21b1 : decide (0 < ((rd_T45 l0 a1).f1).length) = true := decide_eq_true (by omega)
                  clear c21
                  replace H := Option.bind_eq_some_iff.mp H
                  obtain ⟨t111, A220, H⟩ := H
                  replace H : (if t111 = true then ((spec_l7Less.f kj7 ((rd_T45 l0 a1).f1) a3).bind fun t112 => (if a1 < (t105.length : Int) then (some ((t105.set (a1 : Int).toNat (⟨a3, t112⟩ : S45)), true)) else (none))) else (some (t105, false))) = some (r1, r2) := H
                  have A22 := Aside0.mk A220
                  clear A220
                  by_cases c23 : t111 = true
                  · subst c23
                    have H1 : ((spec_l7Less.f kj7 ((rd_T45 l0 a1).f1) a3).bind fun t112 => (if a1 < (t105.length : Int) then (some ((t105.set (a1 : Int).toNat (⟨a3, t112⟩ : S45)), true)) else (none))) = some (r1, r2) := by rw [if_pos rfl] at H; exact H
                    clear H
                    have H := H1
                    clear H1
                    replace H := Option.bind_eq_some_iff.mp H
                    obtain ⟨t112, A240, H⟩ := H
                    replace H : (if a1 < (t105.length : Int) then (some ((t105.set (a1 : Int).toNat (⟨a3, t112⟩ : S45)), true)) else (none)) = some (r1, r2) := H
                    have A24 := Aside0.mk A240
                    clear A240
                    by_cases c25 : a1 < (t105.length : Int)
                    · rw [if_pos c25] at H
                      have c25b0 : decide (a1 < (t105.length : Int)) = true := decide_eq_true c25
                      clear c25
                      obtain ⟨y115, hy115⟩ : ∃ y_ : List (S45), y_ = (t105.set (a1 : Int).toNat (⟨a3, t112⟩ : S45)) := ⟨_, rfl⟩
                      replace H : (some (y115, true)) = some (r1, r2) := by first | (rw [hy115]; with_reducible exact H) | (have H2_ := (Option.bind_some _ _).symm.trans H; rw [hy115]; with_reducible exact H2_) | (have H2_ := (Option.bind_some _ _).symm.trans H; with_reducible exact H2_) | with_reducible exact H | (rw [hy115]; exact H) | exact H
                      have Ny115 := Aside0.mk hy115
                      clear hy115
                      simp only [Option.some.injEq, Prod.mk.injEq] at H
                      obtain ⟨rfl, rfl⟩ := H
                      have p110 : 0 ≤ (a1 : Int) := of_decide_eq_true (by first | (with_reducible assumption) | assumption)
                      have q110 : a1 < (l0.length : Int) := of_decide_eq_true (by first | (with_reducible assumption) | assumption)
                      obtain ⟨ad110, A110_1, c110_1, e110, hx110_0, hx110_1, hl110_1, hi110_1⟩ := at_T45 HR0.out a1 p110 q110
                      cases e110
                      replace hx110_0 := (HB.out.cell (World.block_lt_of_cell? w _ hx110_0)).trans hx110_0
                      replace hx110_1 := (HB.out.cell (World.block_lt_of_cell? w _ hx110_1)).trans hx110_1
                      have HR110_1 := Aside0.mk hi110_1
                      have HC110_1 := Aside0.mk hl110_1
                      clear hi110_1 hl110_1
                      replace p110 := eq_true p110
                      replace q110 := eq_true q110
                      go_wp2_with (first | (go_at_call 30; (with_reducible refine (spec_l7Has.calls kj7 _ _ ((rd_T45 l0 a1).f1) a3 true _ ?side1 ?side2 A22.out).mono ?_); (case side1 => repeat (first | exact (Kd.C_below HR110_1.out HB.out) | (with_reducible refine Kd.C_alloc ?_ _) | (with_reducible refine Kd.C_drewN ?_ _) | (with_reducible refine Kd.C_drew ?_))); (case side2 => exact HC110_1.out); rintro e w' ⟨rfl, ⟨nd, rfl⟩⟩; (try (rw [drewN_self wc]; generalize hq_ : World.drewN wc _ = wc; have n0_ : Aside0 (Kd.S k45 45 wc w.heap.size (fun _ => True) v106 t105) := ⟨by rw [← hq_]; exact (sq HO_10)⟩; have n1_ : Aside0 (Below w.heap.size w wc) := ⟨by rw [← hq_]; exact (bq HB)⟩; clear HO_10 HB hq_; have HO_10 := n0_; have HB := n1_; clear n0_ n1_))) | ((with_reducible refine gate_callee (f := 36) rfl ?_); refine gL (some 67) Try.func36 #[.slice A110_1 ((rd_T45 l0 a1).f1).length c110_1, .int .i64 a3] ?_; (with_reducible refine (spec_l7Less.calls kj7 _ _ ((rd_T45 l0 a1).f1) a3 t112 _ ?side1 ?side2 A24.out).mono ?_); (case side1 => repeat (first | exact (Kd.C_below HR110_1.out HB.out) | (with_reducible refine Kd.C_alloc ?_ _) | (with_reducible refine Kd.C_drewN ?_ _) | (with_reducible refine Kd.C_drew ?_))); (case side2 => exact HC110_1.out); rintro e w27 ⟨v113, rfl, ho0, hb⟩; refine ⟨_, rfl, ?_⟩; have n0_ := aM (Kd.S_elder' (sq HO_10) (Kd.R_base ho0) hb); have n1_ := aM (Kd.R_lower ho0 (below_size (bq HB))); have n2_ := aM (below_step (bq HB) hb); clear HO_10 HB; have HO_10 := n0_; have HO114 := n1_; have HB := n2_; clear n0_ n1_ n2_; (try clear hb); (try clear hb2); (try clear hk); (try clear hi); (try clear ho0); obtain ⟨Ao28, co28, eo28⟩ := Kd.R_slice HO114.out; subst eo28; have p26 : 0 ≤ (a1 : Int) := of_decide_eq_true (by first | (with_reducible assumption) | assumption); have q26 : (a1 : Int) < ((t105.length : Int) : Int) := of_decide_eq_true (by first | (with_reducible assumption) | assumption); obtain ⟨go26, co26, eo26, gb26, gl26, cl26, HG26⟩ := Kd.S_form HO_10.out (by omega); (first | cases eo26 | (injection eo26 with ea_ en_ ec_; (first | subst ea_ | (injection ea_ with ea_; subst ea_)); subst ec_; clear en_)); have GB26 := Aside0.mk gb26; have GG26 := Aside0.mk HG26; clear gb26 gl26 HG26; obtain ⟨_, ce26, hcl26, hM26, hcc26, hfr26, _, _⟩ := Kd.S_elem HO_10.out z45 (a1 : Int) p26 q26; obtain ⟨ve26_1, rfl, ge26_1⟩ := k45_openM hM26; have hx26_0 : w27.cell? ⟨go26, (a1 : Int).toNat * 2, none⟩ = some (.int .i64 ((rd_T45 t105 a1).f0)) := hcc26 0 _ rfl; have hx26_1 : w27.cell? ⟨go26, (a1 : Int).toNat * 2 + 1, none⟩ = some (ve26_1) := hcc26 1 _ rfl; have hf26_0 : w27.frozen? ⟨go26, (a1 : Int).toNat * 2, none⟩ = false := hfr26 0; have hf26_1 : w27.frozen? ⟨go26, (a1 : Int).toNat * 2 + 1, none⟩ = false := hfr26 1; clear hcl26 hcc26 hfr26 hM26; replace p26 := eq_true p26; replace q26 := eq_true q26; have n_ := aM (Kd.S_mono (ok' := (fun k_ => some k_ ≠ (.slice Ao28 t112.length co28 : Value).ownBlock)) HO_10.out (fun k_ hk => hk.2)); clear HO_10; have HO_10 := n_; clear n_; have HX29 := aM (show Kd.S k45 45 w27 w.heap.size (fun k_ => ((fun _ => True)) k_ ∧ ¬ ((fun k_ => some k_ = (.slice Ao28 t112.length co28 : Value).ownBlock)) k_) (.slice (some ⟨go26, 0, none⟩) t105.length co26) t105 from (by (with_reducible repeat (first | apply Kd.S_alloc | apply Kd.S_drewN | apply Kd.S_drew)); exact Kd.S_mono HO_10.out (fun k_ hk => ⟨trivial, fun e_ => hk e_⟩))); obtain ⟨oki29, ce29, hcl29, hM29, hcc29, hfr29, hoki29, hH29⟩ := Kd.S_elem HX29.out z45 (a1 : Int) (of_decide_eq_true (by first | (with_reducible assumption) | assumption)) (by have h_ : (a1 : Int) < ((t105.length : Int) : Int) := of_decide_eq_true (by first | (with_reducible assumption) | assumption); first | exact h_ | (have e_ := (Kd.S_reads' HO_10.out).1; omega) | simpa using h_); obtain ⟨ve29_1, rfl, ge29_1⟩ := k45_openM hM29; have HP29 := Kd.S_seg hH29 (of_decide_eq_true (by first | (with_reducible assumption) | assumption)) (by have h_ : (a1 : Int) < ((t105.length : Int) : Int) := of_decide_eq_true (by first | (with_reducible assumption) | assumption); first | exact h_ | (have e_ := (Kd.S_reads' HO_10.out).1; omega) | simpa using h_) (seg := [.int .i64 a3, .slice Ao28 t112.length co28]) (j := 0) (show 2 ≤ 2 from by decide) (x' := (⟨a3, t112⟩ : S45)) (k45_mkM _ _ _ (⟨a3, t112⟩ : S45) (Kd.R_mono (Kd.R_tight rfl (Kd.R_mono (ok' := fun k_ => ((fun _ => True)) k_ ∧ k_ ≠ go26) (Kd.R_apart' (HO114.out) (Kd.S_typed HO_10.out) (by decide)) (fun k_ hk => ⟨trivial, fun e_ => (hk.2) (by rw [e_]; rfl)⟩))) (fun _ h_ => Or.inr (h_)))) (fun _ hk => hk) (fun k_ hk_ => ((Kd.R_mono (ok' := fun k_ => ((fun _ => True)) k_ ∧ k_ ≠ go26) (Kd.R_apart' (HO114.out) (Kd.S_typed HO_10.out) (by decide)) (fun k_ hk => ⟨trivial, fun e_ => (hk.2) (by rw [e_]; rfl)⟩))).1 k_ hk_.symm); have hx29_0 := hcc29 0 _ rfl; (try simp only [show (k45).sz = 2 from rfl, Nat.mul_one, Nat.add_zero] at hx29_0); have hf29_0 := hfr29 0; (try simp only [show (k45).sz = 2 from rfl, Nat.mul_one, Nat.add_zero] at hf29_0); have hx29_1 := hcc29 1 _ rfl; (try simp only [show (k45).sz = 2 from rfl, Nat.mul_one, Nat.add_zero] at hx29_1); have hf29_1 := hfr29 1; (try simp only [show (k45).sz = 2 from rfl, Nat.mul_one, Nat.add_zero] at hf29_1); clear hcl29 hcc29 hfr29 hM29 hoki29 hH29) | ((with_reducible refine gate_store (t := 45) (p := 69) rfl ?_); refine store_event (t := 45) (p := 69) (v := ?vo_w30) (w1 := ((w27.setCell ⟨go26, (a1 : Int).toNat * 2, none⟩ (.int .i64 a3)).setCell ⟨go26, (a1 : Int).toNat * 2 + 1, none⟩ (.slice Ao28 t112.length co28))) ?hg ?ho ?hn ?hr ?_; (case ho => rfl); (case hg => rfl); (case hn => rfl); (case hr => first | (go_simp; done) | (go_simp; rfl)); intro w30 hw; have hg : w27.grownBy w30 (some go26) := (by rw [hw]; exact HP29.2); have hp_ : Kd.S k45 45 w30 w.heap.size (fun _ => True) (.slice (some ⟨go26, 0, none⟩) t105.length co26) y115 := (by rw [hw, Ny115.out]; exact HP29.1); clear HP29; have n0_ := aM (hp_); have n1_ := aM ((by rw [hw]; exact below_set (below_set (HB.out) GB26.out) GB26.out : Below w.heap.size w w30)); clear HO_10 HB HO114; have HO_10 := n0_; have HB := n1_; clear n0_ n1_; clear hg hw hp_))
                      go_ret2
                      exact ⟨_, by first | rfl | (simp <;> rfl) | (simp [*] <;> rfl), by (with_reducible repeat (first | apply Kd.S_alloc | apply Kd.S_drewN | apply Kd.S_drew)); exact HO_10.out, bq HB⟩
                    rw [if_neg c25] at H
                    exact absurd H (by simp)
                  replace c23 := Bool.eq_false_iff.mpr c23
                  subst c23
                  have H1 : (some (t105, false)) = some (r1, r2) := by rw [if_neg (show ¬ (false = true) by decide)] at H; exact H
                  clear H
                  have H := H1
                  clear H1
                  simp only [Option.some.injEq, Prod.mk.injEq] at H
                  obtain ⟨rfl, rfl⟩ := H
                  have p110 : 0 ≤ (a1 : Int) := of_decide_eq_true (by first | (with_reducible assumption) | assumption)
                  have q110 : a1 < (l0.length : Int) := of_decide_eq_true (by first | (with_reducible assumption) | assumption)
                  obtain ⟨ad110, A110_1, c110_1, e110, hx110_0, hx110_1, hl110_1, hi110_1⟩ := at_T45 HR0.out a1 p110 q110
                  cases e110
                  replace hx110_0 := (HB.out.cell (World.block_lt_of_cell? w _ hx110_0)).trans hx110_0
                  replace hx110_1 := (HB.out.cell (World.block_lt_of_cell? w _ hx110_1)).trans hx110_1
                  have HR110_1 := Aside0.mk hi110_1
                  have HC110_1 := Aside0.mk hl110_1
                  clear hi110_1 hl110_1
                  replace p110 := eq_true p110
                  replace q110 := eq_true q110
                  go_wp2_with (first | (go_at_call 30; (with_reducible refine (spec_l7Has.calls kj7 _ _ ((rd_T45 l0 a1).f1) a3 false _ ?side1 ?side2 A22.out).mono ?_); (case side1 => repeat (first | exact (Kd.C_below HR110_1.out HB.out) | (with_reducible refine Kd.C_alloc ?_ _) | (with_reducible refine Kd.C_drewN ?_ _) | (with_reducible refine Kd.C_drew ?_))); (case side2 => exact HC110_1.out); rintro e w' ⟨rfl, ⟨nd, rfl⟩⟩))
                  go_ret2
                  exact ⟨_, by first | rfl | (simp <;> rfl) | (simp [*] <;> rfl), by (with_reducible repeat (first | apply Kd.S_alloc | apply Kd.S_drewN | apply Kd.S_drew)); exact HO_10.out, bq HB⟩
                rw [if_neg c21] at H
                have c21b0 : decide (0 < (((rd_T45 l0 a1).f1).length : Int)) = false := decide_eq_false c21
                have c21b1 : decide (0 < ((rd_T45 l0 a1).f1).length) = false := decide_eq_false (by omega)
                clear c21
                replace H := Option.bind_eq_some_iff.mp H
                obtain ⟨t116, A310, H⟩ := H
                replace H : (if a1 < (t105.length : Int) then (some ((t105.set (a1 : Int).toNat (⟨a3, t116⟩ : S45)), true)) else (none)) = some (r1, r2) := H
                have A31 := Aside0.mk A310
                clear A310
                by_cases c32 : a1 < (t105.length : Int)
                · rw [if_pos c32] at H
                  have c32b0 : decide (a1 < (t105.length : Int)) = true := decide_eq_true c32
                  clear c32
                  obtain ⟨y119, hy119⟩ : ∃ y_ : List (S45), y_ = (t105.set (a1 : Int).toNat (⟨a3, t116⟩ : S45)) := ⟨_, rfl⟩
                  replace H : (some (y119, true)) = some (r1, r2) := by first | (rw [hy119]; with_reducible exact H) | (have H2_ := (Option.bind_some _ _).symm.trans H; rw [hy119]; with_reducible exact H2_) | (have H2_ := (Option.bind_some _ _).symm.trans H; with_reducible exact H2_) | with_reducible exact H | (rw [hy119]; exact H) | exact H
                  have Ny119 := Aside0.mk hy119
                  clear hy119
                  simp only [Option.some.injEq, Prod.mk.injEq] at H
                  obtain ⟨rfl, rfl⟩ := H
                  have p110 : 0 ≤ (a1 : Int) := of_decide_eq_true (by first | (with_reducible assumption) | assumption)
                  have q110 : a1 < (l0.length : Int) := of_decide_eq_true (by first | (with_reducible assumption) | assumption)
                  obtain ⟨ad110, A110_1, c110_1, e110, hx110_0, hx110_1, hl110_1, hi110_1⟩ := at_T45 HR0.out a1 p110 q110
                  cases e110
                  replace hx110_0 := (HB.out.cell (World.block_lt_of_cell? w _ hx110_0)).trans hx110_0
                  replace hx110_1 := (HB.out.cell (World.block_lt_of_cell? w _ hx110_1)).trans hx110_1
                  have HR110_1 := Aside0.mk hi110_1
                  have HC110_1 := Aside0.mk hl110_1
                  clear hi110_1 hl110_1
                  replace p110 := eq_true p110
                  replace q110 := eq_true q110
                  go_wp2_with (first | ((with_reducible refine gate_callee (f := 36) rfl ?_); refine gL (some 67) Try.func36 #[.slice A110_1 ((rd_T45 l0 a1).f1).length c110_1, .int .i64 a3] ?_; (with_reducible refine (spec_l7Less.calls kj7 _ _ ((rd_T45 l0 a1).f1) a3 t116 _ ?side1 ?side2 A31.out).mono ?_); (case side1 => repeat (first | exact (Kd.C_below HR110_1.out HB.out) | (with_reducible refine Kd.C_alloc ?_ _) | (with_reducible refine Kd.C_drewN ?_ _) | (with_reducible refine Kd.C_drew ?_))); (case side2 => exact HC110_1.out); rintro e w34 ⟨v117, rfl, ho0, hb⟩; refine ⟨_, rfl, ?_⟩; have n0_ := aM (Kd.S_elder' (sq HO_10) (Kd.R_base ho0) hb); have n1_ := aM (Kd.R_lower ho0 (below_size (bq HB))); have n2_ := aM (below_step (bq HB) hb); clear HO_10 HB; have HO_10 := n0_; have HO118 := n1_; have HB := n2_; clear n0_ n1_ n2_; (try clear hb); (try clear hb2); (try clear hk); (try clear hi); (try clear ho0); obtain ⟨Ao35, co35, eo35⟩ := Kd.R_slice HO118.out; subst eo35; have p33 : 0 ≤ (a1 : Int) := of_decide_eq_true (by first | (with_reducible assumption) | assumption); have q33 : (a1 : Int) < ((t105.length : Int) : Int) := of_decide_eq_true (by first | (with_reducible assumption) | assumption); obtain ⟨go33, co33, eo33, gb33, gl33, cl33, HG33⟩ := Kd.S_form HO_10.out (by omega); (first | cases eo33 | (injection eo33 with ea_ en_ ec_; (first | subst ea_ | (injection ea_ with ea_; subst ea_)); subst ec_; clear en_)); have GB33 := Aside0.mk gb33; have GG33 := Aside0.mk HG33; clear gb33 gl33 HG33; obtain ⟨_, ce33, hcl33, hM33, hcc33, hfr33, _, _⟩ := Kd.S_elem HO_10.out z45 (a1 : Int) p33 q33; obtain ⟨ve33_1, rfl, ge33_1⟩ := k45_openM hM33; have hx33_0 : w34.cell? ⟨go33, (a1 : Int).toNat * 2, none⟩ = some (.int .i64 ((rd_T45 t105 a1).f0)) := hcc33 0 _ rfl; have hx33_1 : w34.cell? ⟨go33, (a1 : Int).toNat * 2 + 1, none⟩ = some (ve33_1) := hcc33 1 _ rfl; have hf33_0 : w34.frozen? ⟨go33, (a1 : Int).toNat * 2, none⟩ = false := hfr33 0; have hf33_1 : w34.frozen? ⟨go33, (a1 : Int).toNat * 2 + 1, none⟩ = false := hfr33 1; clear hcl33 hcc33 hfr33 hM33; replace p33 := eq_true p33; replace q33 := eq_true q33; have n_ := aM (Kd.S_mono (ok' := (fun k_ => some k_ ≠ (.slice Ao35 t116.length co35 : Value).ownBlock)) HO_10.out (fun k_ hk => hk.2)); clear HO_10; have HO_10 := n_; clear n_; have HX36 := aM (show Kd.S k45 45 w34 w.heap.size (fun k_ => ((fun _ => True)) k_ ∧ ¬ ((fun k_ => some k_ = (.slice Ao35 t116.length co35 : Value).ownBlock)) k_) (.slice (some ⟨go33, 0, none⟩) t105.length co33) t105 from (by (with_reducible repeat (first | apply Kd.S_alloc | apply Kd.S_drewN | apply Kd.S_drew)); exact Kd.S_mono HO_10.out (fun k_ hk => ⟨trivial, fun e_ => hk e_⟩))); obtain ⟨oki36, ce36, hcl36, hM36, hcc36, hfr36, hoki36, hH36⟩ := Kd.S_elem HX36.out z45 (a1 : Int) (of_decide_eq_true (by first | (with_reducible assumption) | assumption)) (by have h_ : (a1 : Int) < ((t105.length : Int) : Int) := of_decide_eq_true (by first | (with_reducible assumption) | assumption); first | exact h_ | (have e_ := (Kd.S_reads' HO_10.out).1; omega) | simpa using h_); obtain ⟨ve36_1, rfl, ge36_1⟩ := k45_openM hM36; have HP36 := Kd.S_seg hH36 (of_decide_eq_true (by first | (with_reducible assumption) | assumption)) (by have h_ : (a1 : Int) < ((t105.length : Int) : Int) := of_decide_eq_true (by first | (with_reducible assumption) | assumption); first | exact h_ | (have e_ := (Kd.S_reads' HO_10.out).1; omega) | simpa using h_) (seg := [.int .i64 a3, .slice Ao35 t116.length co35]) (j := 0) (show 2 ≤ 2 from by decide) (x' := (⟨a3, t116⟩ : S45)) (k45_mkM _ _ _ (⟨a3, t116⟩ : S45) (Kd.R_mono (Kd.R_tight rfl (Kd.R_mono (ok' := fun k_ => ((fun _ => True)) k_ ∧ k_ ≠ go33) (Kd.R_apart' (HO118.out) (Kd.S_typed HO_10.out) (by decide)) (fun k_ hk => ⟨trivial, fun e_ => (hk.2) (by rw [e_]; rfl)⟩))) (fun _ h_ => Or.inr (h_)))) (fun _ hk => hk) (fun k_ hk_ => ((Kd.R_mono (ok' := fun k_ => ((fun _ => True)) k_ ∧ k_ ≠ go33) (Kd.R_apart' (HO118.out) (Kd.S_typed HO_10.out) (by decide)) (fun k_ hk => ⟨trivial, fun e_ => (hk.2) (by rw [e_]; rfl)⟩))).1 k_ hk_.symm); have hx36_0 := hcc36 0 _ rfl; (try simp only [show (k45).sz = 2 from rfl, Nat.mul_one, Nat.add_zero] at hx36_0); have hf36_0 := hfr36 0; (try simp only [show (k45).sz = 2 from rfl, Nat.mul_one, Nat.add_zero] at hf36_0); have hx36_1 := hcc36 1 _ rfl; (try simp only [show (k45).sz = 2 from rfl, Nat.mul_one, Nat.add_zero] at hx36_1); have hf36_1 := hfr36 1; (try simp only [show (k45).sz = 2 from rfl, Nat.mul_one, Nat.add_zero] at hf36_1); clear hcl36 hcc36 hfr36 hM36 hoki36 hH36) | ((with_reducible refine gate_store (t := 45) (p := 69) rfl ?_); refine store_event (t := 45) (p := 69) (v := ?vo_w37) (w1 := ((w34.setCell ⟨go33, (a1 : Int).toNat * 2, none⟩ (.int .i64 a3)).setCell ⟨go33, (a1 : Int).toNat * 2 + 1, none⟩ (.slice Ao35 t116.length co35))) ?hg ?ho ?hn ?hr ?_; (case ho => rfl); (case hg => rfl); (case hn => rfl); (case hr => first | (go_simp; done) | (go_simp; rfl)); intro w37 hw; have hg : w34.grownBy w37 (some go33) := (by rw [hw]; exact HP36.2); have hp_ : Kd.S k45 45 w37 w.heap.size (fun _ => True) (.slice (some ⟨go33, 0, none⟩) t105.length co33) y119 := (by rw [hw, Ny119.out]; exact HP36.1); clear HP36; have n0_ := aM (hp_); have n1_ := aM ((by rw [hw]; exact below_set (below_set (HB.out) GB33.out) GB33.out : Below w.heap.size w w37)); clear HO_10 HB HO118; have HO_10 := n0_; have HB := n1_; clear n0_ n1_; clear hg hw hp_))
                  go_ret2
                  exact ⟨_, by first | rfl | (simp <;> rfl) | (simp [*] <;> rfl), by (with_reducible repeat (first | apply Kd.S_alloc | apply Kd.S_drewN | apply Kd.S_drew)); exact HO_10.out, bq HB⟩
                rw [if_neg c32] at H
                exact absurd H (by simp)
              rw [if_neg c20] at H
              have c20b0 : (a3 == 0) = false := beq_eq_false_iff_ne.mpr c20
              have c20b1 : (a3 != 0) = true := bne_iff_ne.mpr c20
              simp only [Option.some.injEq, Prod.mk.injEq] at H
              obtain ⟨rfl, rfl⟩ := H
              have p110 : 0 ≤ (a1 : Int) := of_decide_eq_true (by first | (with_reducible assumption) | assumption)
              have q110 : a1 < (l0.length : Int) := of_decide_eq_true (by first | (with_reducible assumption) | assumption)
              obtain ⟨ad110, A110_1, c110_1, e110, hx110_0, hx110_1, hl110_1, hi110_1⟩ := at_T45 HR0.out a1 p110 q110
              cases e110
              replace hx110_0 := (HB.out.cell (World.block_lt_of_cell? w _ hx110_0)).trans hx110_0
              replace hx110_1 := (HB.out.cell (World.block_lt_of_cell? w _ hx110_1)).trans hx110_1
              have HR110_1 := Aside0.mk hi110_1
              have HC110_1 := Aside0.mk hl110_1
              clear hi110_1 hl110_1
              replace p110 := eq_true p110
              replace q110 := eq_true q110
              go_wp2
              go_ret2
              exact ⟨_, by first | rfl | (simp <;> rfl) | (simp [*] <;> rfl), by (with_reducible repeat (first | apply Kd.S_alloc | apply Kd.S_drewN | apply Kd.S_drew)); exact HO_10.out, bq HB⟩
            rw [if_neg c19] at H
            have c19b0 : ((((rd_T45 l0 a1).f1).length : Int) == 0) = false := beq_eq_false_iff_ne.mpr c19
            have c19b1 : ((((rd_T45 l0 a1).f1).length : Int) != 0) = true := bne_iff_ne.mpr c19
            have c19b2 : ¬ (((rd_T45 l0 a1).f1) = []) := fun h_ => c19 (by rw [h_]; rfl)
            by_cases c38 : (((rd_T45 l0 a1).f1).length : Int) > 0
            · rw [if_pos c38] at H
              have c38b0 : decide (0 < (((rd_T45 l0 a1).f1).length : Int)) = true := decide_eq_true c38
              have c38b1 : decide (0 < ((rd_T45 l0 a1).f1).length) = true := decide_eq_true (by omega)
              clear c38
              replace H := Option.bind_eq_some_iff.mp H
              obtain ⟨t120, A390, H⟩ := H
              replace H : (if t120 = true then ((spec_l7Less.f kj7 ((rd_T45 l0 a1).f1) a3).bind fun t121 => (if a1 < (t105.length : Int) then (some ((t105.set (a1 : Int).toNat (⟨a3, t121⟩ : S45)), true)) else (none))) else (some (t105, false))) = some (r1, r2) := H
              have A39 := Aside0.mk A390
              clear A390
              by_cases c40 : t120 = true
              · subst c40
                have H1 : ((spec_l7Less.f kj7 ((rd_T45 l0 a1).f1) a3).bind fun t121 => (if a1 < (t105.length : Int) then (some ((t105.set (a1 : Int).toNat (⟨a3, t121⟩ : S45)), true)) else (none))) = some (r1, r2) := by rw [if_pos rfl] at H; exact H
                clear H
                have H := H1
                clear H1
                replace H := Option.bind_eq_some_iff.mp H
                obtain ⟨t121, A410, H⟩ := H
                replace H : (if a1 < (t105.length : Int) then (some ((t105.set (a1 : Int).toNat (⟨a3, t121⟩ : S45)), true)) else (none)) = some (r1, r2) := H
                have A41 := Aside0.mk A410
                clear A410
                by_cases c42 : a1 < (t105.length : Int)
                · rw [if_pos c42] at H
                  have c42b0 : decide (a1 < (t105.length : Int)) = true := decide_eq_true c42
                  clear c42
                  obtain ⟨y124, hy124⟩ : ∃ y_ : List (S45), y_ = (t105.set (a1 : Int).toNat (⟨a3, t121⟩ : S45)) := ⟨_, rfl⟩
                  replace H : (some (y124, true)) = some (r1, r2) := by first | (rw [hy124]; with_reducible exact H) | (have H2_ := (Option.bind_some _ _).symm.trans H; rw [hy124]; with_reducible exact H2_) | (have H2_ := (Option.bind_some _ _).symm.trans H; with_reducible exact H2_) | with_reducible exact H | (rw [hy124]; exact H) | exact H
                  have Ny124 := Aside0.mk hy124
                  clear hy124
                  simp only [Option.some.injEq, Prod.mk.injEq] at H
                  obtain ⟨rfl, rfl⟩ := H
                  have p110 : 0 ≤ (a1 : Int) := of_decide_eq_true (by first | (with_reducible assumption) | assumption)
                  have q110 : a1 < (l0.length : Int) := of_decide_eq_true (by first | (with_reducible assumption) | assumption)
                  obtain ⟨ad110, A110_1, c110_1, e110, hx110_0, hx110_1, hl110_1, hi110_1⟩ := at_T45 HR0.out a1 p110 q110
                  cases e110
                  replace hx110_0 := (HB.out.cell (World.block_lt_of_cell? w _ hx110_0)).trans hx110_0
                  replace hx110_1 := (HB.out.cell (World.block_lt_of_cell? w _ hx110_1)).trans hx110_1
                  have HR110_1 := Aside0.mk hi110_1
                  have HC110_1 := Aside0.mk hl110_1
                  clear hi110_1 hl110_1
                  replace p110 := eq_true p110
                  replace q110 := eq_true q110
                  go_wp2_with (first | (go_at_call 30; (with_reducible refine (spec_l7Has.calls kj7 _ _ ((rd_T45 l0 a1).f1) a3 true _ ?side1 ?side2 A39.out).mono ?_); (case side1 => repeat (first | exact (Kd.C_below HR110_1.out HB.out) | (with_reducible refine Kd.C_alloc ?_ _) | (with_reducible refine Kd.C_drewN ?_ _) | (with_reducible refine Kd.C_drew ?_))); (case side2 => exact HC110_1.out); rintro e w' ⟨rfl, ⟨nd, rfl⟩⟩; (try (rw [drewN_self wc]; generalize hq_ : World.drewN wc _ = wc; have n0_ : Aside0 (Kd.S k45 45 wc w.heap.size (fun _ => True) v106 t105) := ⟨by rw [← hq_]; exact (sq HO_10)⟩; have n1_ : Aside0 (Below w.heap.size w wc) := ⟨by rw [← hq_]; exact (bq HB)⟩; clear HO_10 HB hq_; have HO_10 := n0_; have HB := n1_; clear n0_ n1_))) | ((with_reducible refine gate_callee (f := 36) rfl ?_); refine gL (some 67) Try.func36 #[.slice A110_1 ((rd_T45 l0 a1).f1).length c110_1, .int .i64 a3] ?_; (with_reducible refine (spec_l7Less.calls kj7 _ _ ((rd_T45 l0 a1).f1) a3 t121 _ ?side1 ?side2 A41.out).mono ?_); (case side1 => repeat (first | exact (Kd.C_below HR110_1.out HB.out) | (with_reducible refine Kd.C_alloc ?_ _) | (with_reducible refine Kd.C_drewN ?_ _) | (with_reducible refine Kd.C_drew ?_))); (case side2 => exact HC110_1.out); rintro e w44 ⟨v122, rfl, ho0, hb⟩; refine ⟨_, rfl, ?_⟩; have n0_ := aM (Kd.S_elder' (sq HO_10) (Kd.R_base ho0) hb); have n1_ := aM (Kd.R_lower ho0 (below_size (bq HB))); have n2_ := aM (below_step (bq HB) hb); clear HO_10 HB; have HO_10 := n0_; have HO123 := n1_; have HB := n2_; clear n0_ n1_ n2_; (try clear hb); (try clear hb2); (try clear hk); (try clear hi); (try clear ho0); obtain ⟨Ao45, co45, eo45⟩ := Kd.R_slice HO123.out; subst eo45; have p43 : 0 ≤ (a1 : Int) := of_decide_eq_true (by first | (with_reducible assumption) | assumption); have q43 : (a1 : Int) < ((t105.length : Int) : Int) := of_decide_eq_true (by first | (with_reducible assumption) | assumption); obtain ⟨go43, co43, eo43, gb43, gl43, cl43, HG43⟩ := Kd.S_form HO_10.out (by omega); (first | cases eo43 | (injection eo43 with ea_ en_ ec_; (first | subst ea_ | (injection ea_ with ea_; subst ea_)); subst ec_; clear en_)); have GB43 := Aside0.mk gb43; have GG43 := Aside0.mk HG43; clear gb43 gl43 HG43; obtain ⟨_, ce43, hcl43, hM43, hcc43, hfr43, _, _⟩ := Kd.S_elem HO_10.out z45 (a1 : Int) p43 q43; obtain ⟨ve43_1, rfl, ge43_1⟩ := k45_openM hM43; have hx43_0 : w44.cell? ⟨go43, (a1 : Int).toNat * 2, none⟩ = some (.int .i64 ((rd_T45 t105 a1).f0)) := hcc43 0 _ rfl; have hx43_1 : w44.cell? ⟨go43, (a1 : Int).toNat * 2 + 1, none⟩ = some (ve43_1) := hcc43 1 _ rfl; have hf43_0 : w44.frozen? ⟨go43, (a1 : Int).toNat * 2, none⟩ = false := hfr43 0; have hf43_1 : w44.frozen? ⟨go43, (a1 : Int).toNat * 2 + 1, none⟩ = false := hfr43 1; clear hcl43 hcc43 hfr43 hM43; replace p43 := eq_true p43; replace q43 := eq_true q43; have n_ := aM (Kd.S_mono (ok' := (fun k_ => some k_ ≠ (.slice Ao45 t121.length co45 : Value).ownBlock)) HO_10.out (fun k_ hk => hk.2)); clear HO_10; have HO_10 := n_; clear n_; have HX46 := aM (show Kd.S k45 45 w44 w.heap.size (fun k_ => ((fun _ => True)) k_ ∧ ¬ ((fun k_ => some k_ = (.slice Ao45 t121.length co45 : Value).ownBlock)) k_) (.slice (some ⟨go43, 0, none⟩) t105.length co43) t105 from (by (with_reducible repeat (first | apply Kd.S_alloc | apply Kd.S_drewN | apply Kd.S_drew)); exact Kd.S_mono HO_10.out (fun k_ hk => ⟨trivial, fun e_ => hk e_⟩))); obtain ⟨oki46, ce46, hcl46, hM46, hcc46, hfr46, hoki46, hH46⟩ := Kd.S_elem HX46.out z45 (a1 : Int) (of_decide_eq_true (by first | (with_reducible assumption) | assumption)) (by have h_ : (a1 : Int) < ((t105.length : Int) : Int) := of_decide_eq_true (by first | (with_reducible assumption) | assumption); first | exact h_ | (have e_ := (Kd.S_reads' HO_10.out).1; omega) | simpa using h_); obtain ⟨ve46_1, rfl, ge46_1⟩ := k45_openM hM46; have HP46 := Kd.S_seg hH46 (of_decide_eq_true (by first | (with_reducible assumption) | assumption)) (by have h_ : (a1 : Int) < ((t105.length : Int) : Int) := of_decide_eq_true (by first | (with_reducible assumption) | assumption); first | exact h_ | (have e_ := (Kd.S_reads' HO_10.out).1; omega) | simpa using h_) (seg := [.int .i64 a3, .slice Ao45 t121.length co45]) (j := 0) (show 2 ≤ 2 from by decide) (x' := (⟨a3, t121⟩ : S45)) (k45_mkM _ _ _ (⟨a3, t121⟩ : S45) (Kd.R_mono (Kd.R_tight rfl (Kd.R_mono (ok' := fun k_ => ((fun _ => True)) k_ ∧ k_ ≠ go43) (Kd.R_apart' (HO123.out) (Kd.S_typed HO_10.out) (by decide)) (fun k_ hk => ⟨trivial, fun e_ => (hk.2) (by rw [e_]; rfl)⟩))) (fun _ h_ => Or.inr (h_)))) (fun _ hk => hk) (fun k_ hk_ => ((Kd.R_mono (ok' := fun k_ => ((fun _ => True)) k_ ∧ k_ ≠ go43) (Kd.R_apart' (HO123.out) (Kd.S_typed HO_10.out) (by decide)) (fun k_ hk => ⟨trivial, fun e_ => (hk.2) (by rw [e_]; rfl)⟩))).1 k_ hk_.symm); have hx46_0 := hcc46 0 _ rfl; (try simp only [show (k45).sz = 2 from rfl, Nat.mul_one, Nat.add_zero] at hx46_0); have hf46_0 := hfr46 0; (try simp only [show (k45).sz = 2 from rfl, Nat.mul_one, Nat.add_zero] at hf46_0); have hx46_1 := hcc46 1 _ rfl; (try simp only [show (k45).sz = 2 from rfl, Nat.mul_one, Nat.add_zero] at hx46_1); have hf46_1 := hfr46 1; (try simp only [show (k45).sz = 2 from rfl, Nat.mul_one, Nat.add_zero] at hf46_1); clear hcl46 hcc46 hfr46 hM46 hoki46 hH46) | ((with_reducible refine gate_store (t := 45) (p := 69) rfl ?_); refine store_event (t := 45) (p := 69) (v := ?vo_w47) (w1 := ((w44.setCell ⟨go43, (a1 : Int).toNat * 2, none⟩ (.int .i64 a3)).setCell ⟨go43, (a1 : Int).toNat * 2 + 1, none⟩ (.slice Ao45 t121.length co45))) ?hg ?ho ?hn ?hr ?_; (case ho => rfl); (case hg => rfl); (case hn => rfl); (case hr => first | (go_simp; done) | (go_simp; rfl)); intro w47 hw; have hg : w44.grownBy w47 (some go43) := (by rw [hw]; exact HP46.2); have hp_ : Kd.S k45 45 w47 w.heap.size (fun _ => True) (.slice (some ⟨go43, 0, none⟩) t105.length co43) y124 := (by rw [hw, Ny124.out]; exact HP46.1); clear HP46; have n0_ := aM (hp_); have n1_ := aM ((by rw [hw]; exact below_set (below_set (HB.out) GB43.out) GB43.out : Below w.heap.size w w47)); clear HO_10 HB HO123; have HO_10 := n0_; have HB := n1_; clear n0_ n1_; clear hg hw hp_))
                  go_ret2
                  exact ⟨_, by first | rfl | (simp <;> rfl) | (simp [*] <;> rfl), by (with_reducible repeat (first | apply Kd.S_alloc | apply Kd.S_drewN | apply Kd.S_drew)); exact HO_10.out, bq HB⟩
                rw [if_neg c42] at H
                exact absurd H (by simp)
              replace c40 := Bool.eq_false_iff.mpr c40
              subst c40
              have H1 : (some (t105, false)) = some (r1, r2) := by rw [if_neg (show ¬ (false = true) by decide)] at H; exact H
              clear H
              have H := H1
              clear H1
              simp only [Option.some.injEq, Prod.mk.injEq] at H
              obtain ⟨rfl, rfl⟩ := H
              have p110 : 0 ≤ (a1 : Int) := of_decide_eq_true (by first | (with_reducible assumption) | assumption)
              have q110 : a1 < (l0.length : Int) := of_decide_eq_true (by first | (with_reducible assumption) | assumption)
              obtain ⟨ad110, A110_1, c110_1, e110, hx110_0, hx110_1, hl110_1, hi110_1⟩ := at_T45 HR0.out a1 p110 q110
              cases e110
              replace hx110_0 := (HB.out.cell (World.block_lt_of_cell? w _ hx110_0)).trans hx110_0
              replace hx110_1 := (HB.out.cell (World.block_lt_of_cell? w _ hx110_1)).trans hx110_1
              have HR110_1 := Aside0.mk hi110_1
              have HC110_1 := Aside0.mk hl110_1
              clear hi110_1 hl110_1
              replace p110 := eq_true p110
              replace q110 := eq_true q110
              go_wp2_with (first | (go_at_call 30; (with_reducible refine (spec_l7Has.calls kj7 _ _ ((rd_T45 l0 a1).f1) a3 false _ ?side1 ?side2 A39.out).mono ?_); (case side1 => repeat (first | exact (Kd.C_below HR110_1.out HB.out) | (with_reducible refine Kd.C_alloc ?_ _) | (with_reducible refine Kd.C_drewN ?_ _) | (with_reducible refine Kd.C_drew ?_))); (case side2 => exact HC110_1.out); rintro e w' ⟨rfl, ⟨nd, rfl⟩⟩))
              go_ret2
              exact ⟨_, by first | rfl | (simp <;> rfl) | (simp [*] <;> rfl), by (with_reducible repeat (first | apply Kd.S_alloc | apply Kd.S_drewN | apply Kd.S_drew)); exact HO_10.out, bq HB⟩
            rw [if_neg c38] at H
            have c38b0 : decide (0 < (((rd_T45 l0 a1).f1).length : Int)) = false := decide_eq_false c38
            have c38b1 : decide (0 < ((rd_T45 l0 a1).f1).length) = false := decide_eq_false (by omega)
            clear c38
            replace H := Option.bind_eq_some_iff.mp H
            obtain ⟨t125, A480, H⟩ := H
            replace H : (if a1 < (t105.length : Int) then (some ((t105.set (a1 : Int).toNat (⟨a3, t125⟩ : S45)), true)) else (none)) = some (r1, r2) := H
            have A48 := Aside0.mk A480
            clear A480
            by_cases c49 : a1 < (t105.length : Int)
            · rw [if_pos c49] at H
              have c49b0 : decide (a1 < (t105.length : Int)) = true := decide_eq_true c49
              clear c49
              obtain ⟨y128, hy128⟩ : ∃ y_ : List (S45), y_ = (t105.set (a1 : Int).toNat (⟨a3, t125⟩ : S45)) := ⟨_, rfl⟩
              replace H : (some (y128, true)) = some (r1, r2) := by first | (rw [hy128]; with_reducible exact H) | (have H2_ := (Option.bind_some _ _).symm.trans H; rw [hy128]; with_reducible exact H2_) | (have H2_ := (Option.bind_some _ _).symm.trans H; with_reducible exact H2_) | with_reducible exact H | (rw [hy128]; exact H) | exact H
              have Ny128 := Aside0.mk hy128
              clear hy128
              simp only [Option.some.injEq, Prod.mk.injEq] at H
              obtain ⟨rfl, rfl⟩ := H
              have p110 : 0 ≤ (a1 : Int) := of_decide_eq_true (by first | (with_reducible assumption) | assumption)
              have q110 : a1 < (l0.length : Int) := of_decide_eq_true (by first | (with_reducible assumption) | assumption)
              obtain ⟨ad110, A110_1, c110_1, e110, hx110_0, hx110_1, hl110_1, hi110_1⟩ := at_T45 HR0.out a1 p110 q110
              cases e110
              replace hx110_0 := (HB.out.cell (World.block_lt_of_cell? w _ hx110_0)).trans hx110_0
              replace hx110_1 := (HB.out.cell (World.block_lt_of_cell? w _ hx110_1)).trans hx110_1
              have HR110_1 := Aside0.mk hi110_1
              have HC110_1 := Aside0.mk hl110_1
              clear hi110_1 hl110_1
              replace p110 := eq_true p110
              replace q110 := eq_true q110
              go_wp2_with (first | ((with_reducible refine gate_callee (f := 36) rfl ?_); refine gL (some 67) Try.func36 #[.slice A110_1 ((rd_T45 l0 a1).f1).length c110_1, .int .i64 a3] ?_; (with_reducible refine (spec_l7Less.calls kj7 _ _ ((rd_T45 l0 a1).f1) a3 t125 _ ?side1 ?side2 A48.out).mono ?_); (case side1 => repeat (first | exact (Kd.C_below HR110_1.out HB.out) | (with_reducible refine Kd.C_alloc ?_ _) | (with_reducible refine Kd.C_drewN ?_ _) | (with_reducible refine Kd.C_drew ?_))); (case side2 => exact HC110_1.out); rintro e w51 ⟨v126, rfl, ho0, hb⟩; refine ⟨_, rfl, ?_⟩; have n0_ := aM (Kd.S_elder' (sq HO_10) (Kd.R_base ho0) hb); have n1_ := aM (Kd.R_lower ho0 (below_size (bq HB))); have n2_ := aM (below_step (bq HB) hb); clear HO_10 HB; have HO_10 := n0_; have HO127 := n1_; have HB := n2_; clear n0_ n1_ n2_; (try clear hb); (try clear hb2); (try clear hk); (try clear hi); (try clear ho0); obtain ⟨Ao52, co52, eo52⟩ := Kd.R_slice HO127.out; subst eo52; have p50 : 0 ≤ (a1 : Int) := of_decide_eq_true (by first | (with_reducible assumption) | assumption); have q50 : (a1 : Int) < ((t105.length : Int) : Int) := of_decide_eq_true (by first | (with_reducible assumption) | assumption); obtain ⟨go50, co50, eo50, gb50, gl50, cl50, HG50⟩ := Kd.S_form HO_10.out (by omega); (first | cases eo50 | (injection eo50 with ea_ en_ ec_; (first | subst ea_ | (injection ea_ with ea_; subst ea_)); subst ec_; clear en_)); have GB50 := Aside0.mk gb50; have GG50 := Aside0.mk HG50; clear gb50 gl50 HG50; obtain ⟨_, ce50, hcl50, hM50, hcc50, hfr50, _, _⟩ := Kd.S_elem HO_10.out z45 (a1 : Int) p50 q50; obtain ⟨ve50_1, rfl, ge50_1⟩ := k45_openM hM50; have hx50_0 : w51.cell? ⟨go50, (a1 : Int).toNat * 2, none⟩ = some (.int .i64 ((rd_T45 t105 a1).f0)) := hcc50 0 _ rfl; have hx50_1 : w51.cell? ⟨go50, (a1 : Int).toNat * 2 + 1, none⟩ = some (ve50_1) := hcc50 1 _ rfl; have hf50_0 : w51.frozen? ⟨go50, (a1 : Int).toNat * 2, none⟩ = false := hfr50 0; have hf50_1 : w51.frozen? ⟨go50, (a1 : Int).toNat * 2 + 1, none⟩ = false := hfr50 1; clear hcl50 hcc50 hfr50 hM50; replace p50 := eq_true p50; replace q50 := eq_true q50; have n_ := aM (Kd.S_mono (ok' := (fun k_ => some k_ ≠ (.slice Ao52 t125.length co52 : Value).ownBlock)) HO_10.out (fun k_ hk => hk.2)); clear HO_10; have HO_10 := n_; clear n_; have HX53 := aM (show Kd.S k45 45 w51 w.heap.size (fun k_ => ((fun _ => True)) k_ ∧ ¬ ((fun k_ => some k_ = (.slice Ao52 t125.length co52 : Value).ownBlock)) k_) (.slice (some ⟨go50, 0, none⟩) t105.length co50) t105 from (by (with_reducible repeat (first | apply Kd.S_alloc | apply Kd.S_drewN | apply Kd.S_drew)); exact Kd.S_mono HO_10.out (fun k_ hk => ⟨trivial, fun e_ => hk e_⟩))); obtain ⟨oki53, ce53, hcl53, hM53, hcc53, hfr53, hoki53, hH53⟩ := Kd.S_elem HX53.out z45 (a1 : Int) (of_decide_eq_true (by first | (with_reducible assumption) | assumption)) (by have h_ : (a1 : Int) < ((t105.length : Int) : Int) := of_decide_eq_true (by first | (with_reducible assumption) | assumption); first | exact h_ | (have e_ := (Kd.S_reads' HO_10.out).1; omega) | simpa using h_); obtain ⟨ve53_1, rfl, ge53_1⟩ := k45_openM hM53; have HP53 := Kd.S_seg hH53 (of_decide_eq_true (by first | (with_reducible assumption) | assumption)) (by have h_ : (a1 : Int) < ((t105.length : Int) : Int) := of_decide_eq_true (by first | (with_reducible assumption) | assumption); first | exact h_ | (have e_ := (Kd.S_reads' HO_10.out).1; omega) | simpa using h_) (seg := [.int .i64 a3, .slice Ao52 t125.length co52]) (j := 0) (show 2 ≤ 2 from by decide) (x' := (⟨a3, t125⟩ : S45)) (k45_mkM _ _ _ (⟨a3, t125⟩ : S45) (Kd.R_mono (Kd.R_tight rfl (Kd.R_mono (ok' := fun k_ => ((fun _ => True)) k_ ∧ k_ ≠ go50) (Kd.R_apart' (HO127.out) (Kd.S_typed HO_10.out) (by decide)) (fun k_ hk => ⟨trivial, fun e_ => (hk.2) (by rw [e_]; rfl)⟩))) (fun _ h_ => Or.inr (h_)))) (fun _ hk => hk) (fun k_ hk_ => ((Kd.R_mono (ok' := fun k_ => ((fun _ => True)) k_ ∧ k_ ≠ go50) (Kd.R_apart' (HO127.out) (Kd.S_typed HO_10.out) (by decide)) (fun k_ hk => ⟨trivial, fun e_ => (hk.2) (by rw [e_]; rfl)⟩))).1 k_ hk_.symm); have hx53_0 := hcc53 0 _ rfl; (try simp only [show (k45).sz = 2 from rfl, Nat.mul_one, Nat.add_zero] at hx53_0); have hf53_0 := hfr53 0; (try simp only [show (k45).sz = 2 from rfl, Nat.mul_one, Nat.add_zero] at hf53_0); have hx53_1 := hcc53 1 _ rfl; (try simp only [show (k45).sz = 2 from rfl, Nat.mul_one, Nat.add_zero] at hx53_1); have hf53_1 := hfr53 1; (try simp only [show (k45).sz = 2 from rfl, Nat.mul_one, Nat.add_zero] at hf53_1); clear hcl53 hcc53 hfr53 hM53 hoki53 hH53) | ((with_reducible refine gate_store (t := 45) (p := 69) rfl ?_); refine store_event (t := 45) (p := 69) (v := ?vo_w54) (w1 := ((w51.setCell ⟨go50, (a1 : Int).toNat * 2, none⟩ (.int .i64 a3)).setCell ⟨go50, (a1 : Int).toNat * 2 + 1, none⟩ (.slice Ao52 t125.length co52))) ?hg ?ho ?hn ?hr ?_; (case ho => rfl); (case hg => rfl); (case hn => rfl); (case hr => first | (go_simp; done) | (go_simp; rfl)); intro w54 hw; have hg : w51.grownBy w54 (some go50) := (by rw [hw]; exact HP53.2); have hp_ : Kd.S k45 45 w54 w.heap.size (fun _ => True) (.slice (some ⟨go50, 0, none⟩) t105.length co50) y128 := (by rw [hw, Ny128.out]; exact HP53.1); clear HP53; have n0_ := aM (hp_); have n1_ := aM ((by rw [hw]; exact below_set (below_set (HB.out) GB50.out) GB50.out : Below w.heap.size w w54)); clear HO_10 HB HO127; have HO_10 := n0_; have HB := n1_; clear n0_ n1_; clear hg hw hp_))
              go_ret2
              exact ⟨_, by first | rfl | (simp <;> rfl) | (simp [*] <;> rfl), by (with_reducible repeat (first | apply Kd.S_alloc | apply Kd.S_drewN | apply Kd.S_drew)); exact HO_10.out, bq HB⟩
            rw [if_neg c49] at H
            exact absurd H (by simp)
          rw [if_neg c18] at H
          exact absurd H (by simp)
        rw [if_neg c17] at H
        exact absurd H (by simp)
  replace c6 := Bool.eq_false_iff.mpr c6
  subst c6
  have H1 : (some ((([] : List (S45))), false)) = some (r1, r2) := by rw [if_neg (show ¬ (false = true) by decide)] at H; exact H
  clear H
  have H := H1
  clear H1
  obtain ⟨y102, hy102⟩ : ∃ y_ : List (S45), y_ = (([] : List (S45))) := ⟨_, rfl⟩
  replace H : (some (y102, false)) = some (r1, r2) := by first | (rw [hy102]; with_reducible exact H) | (have H2_ := (Option.bind_some _ _).symm.trans H; rw [hy102]; with_reducible exact H2_) | (have H2_ := (Option.bind_some _ _).symm.trans H; with_reducible exact H2_) | with_reducible exact H | (rw [hy102]; exact H) | exact H
  have Ny102 := Aside0.mk hy102
  clear hy102
  simp only [Option.some.injEq, Prod.mk.injEq] at H
  obtain ⟨rfl, rfl⟩ := H
  go_enter Try.func18, Try.ntmps18
  go_wp2_with (first | ((with_reducible refine gate_callee (f := 21) rfl ?_); refine gL (some 13) Try.func21 #[.slice A0 l0.length c0] ?_; (with_reducible refine (spec_LocksOk.calls k _ _ l0 false _ ?side1 ?side2 A5.out).mono ?_); (case side1 => repeat (first | exact HR0.out | (with_reducible refine Kd.C_alloc ?_ _) | (with_reducible refine Kd.C_drewN ?_ _) | (with_reducible refine Kd.C_drew ?_))); (case side2 => exact HC0.out); rintro e w55 ⟨rfl, hb⟩; refine ⟨_, rfl, ?_⟩; have n0_ := aM (below_step (bq HB) hb); clear HB; have HB := n0_; clear n0_; (try clear hb); (try clear hb2); (try clear hk); (try clear hi)) | ((with_reducible refine gate_dst (N := 15) rfl ?_); (try (refine gate_guard (by rfl) ?_; dsimp only)); refine Kd.S_lit k45 _ 45 ?hg (N := 15) ?hd (xs := ([] : List (S45))) (inner := []) (ok := fun _ => True) (okp := fun _ => True) ?hr ?hp (fun _ hk => hk) trivial (Below.refl _ _) (Nat.le_refl _) (by simp) ?_; (case hd => rfl); (case hg => rfl); (case hr => first | (go_simp; done) | (go_simp; rfl)); (case hp => exact (Reps.none _ _)); intro v103 w56 ho57 hb hg_ hnew_; clear hg_ hnew_; (first | rw [← Ny102.out] at ho57 | (simp only [Int.reduceToNat] at ho57; rw [← Ny102.out] at ho57)); have n0_ := aM (Kd.S_lower ho57 (below_size (bq HB))); have n1_ := aM (below_step (bq HB) hb); clear HB; have HO104 := n0_; have HB := n1_; clear n0_ n1_; clear hb ho57))
  go_ret2
  exact ⟨_, by first | rfl | (simp <;> rfl) | (simp [*] <;> rfl), by (with_reducible repeat (first | apply Kd.S_alloc | apply Kd.S_drewN | apply Kd.S_drew)); exact HO104.out, bq HB⟩

/-! ### slices_Delete_int_int: function 38, by hand -/
-- MANUAL rounds=no making=yes
theorem step_append_runE {P : Program} {ops : Array Oper} {o : Oper} {a : Act} {w : World} {K : Act → World → Prop} {Q : Exit → Act → World → Prop} {E : Prop}
    (hg : o.guard = none) (d x : Operand) (dT sT : TypeId) (hop : o.op = Op.call { callee := Callee.builtin Builtin.append, args := #[d, x], argTypes := #[dT, sT] })
    (v u : Value) (hd : a.eval d = v) (hx : a.eval x = u) {v' : Value} {w' : World} (hr : (Builtin.append_ #[dT, sT] o.type #[v, u]).run P w = .ok v' w') (hK : K (a.put o.dst v') w') :
    if Region.wanted o (yielded ops a.tmps) = true then Oper.wp P o a w K Q else E := by
  have hw : Region.wanted o (yielded ops a.tmps) = true := by simp [Region.wanted, hg]
  rw [if_pos hw]
  unfold Oper.wp execOp
  simp only [hop, resolve, invoke, builtin, Sem.run_bind, Sem.run_pure, Result.andThen_ok, List.map_toArray, List.map_cons, List.map_nil, hd, hx, hr]
  exact hK
/-- Cells behind a row's last element are written: the row is as it was. -/
theorem R_past {α : Type} (d : Kd α) {W : World} {base e g n c : Nat} {xs : List α} {ok : Nat → Prop} (HO : d.R e W base ok (.slice (some ⟨g, 0, none⟩) n c) xs) (q : Nat) (vs : List Value) (h0 : n * d.sz ≤ q) (h1 : q + vs.length ≤ c * d.sz) :
    d.R e (W.setCells g q vs) base ok (.slice (some ⟨g, 0, none⟩) n c) xs ∧ W.grownBy (W.setCells g q vs) (some g) := by
  obtain ⟨hn, hnc, _⟩ := Kd.R_reads' HO
  obtain ⟨hok, inner, hown, hr⟩ := HO
  rcases hown.2 with ⟨hv, _⟩ | ⟨g', cap', cur, hv, hb, hh, hnc2, hcm, hcs, htake⟩
  · cases hv
  injection hv with ha _ hc
  injection ha with ha
  injection ha with hg
  subst hg; subst hc
  obtain ⟨cur', h3, h4, h5⟩ := setCells_row vs q W cur hh (by omega)
  obtain ⟨s1, s2, s3, s4⟩ := setCells_same g vs q W
  have hfar : ∀ k', k' ≠ g → (W.setCells g q vs).heap[k']? = W.heap[k']? := fun k' hk' => setCells_far vs _ k' hk'
  have hgo : some g = (Value.slice (some ⟨g, 0, none⟩) n c).ownBlock := by simp [Value.ownBlock]
  refine ⟨⟨hok, inner, ⟨hown.1, .inr ⟨g, c, cur', by rw [← hn], hb, h3, hnc2, hcm, by rw [h4, hcs], ?_⟩⟩, ?_⟩, ⟨s1, s2, s3, by rw [s4]; exact Nat.le_refl _, fun k' _ hk' => hfar k' (fun he => hk' (by rw [he]))⟩⟩
  · rw [h5, ← htake, ← hn, List.append_assoc, List.take_append_of_le_length (by rw [List.length_take, Array.length_toList]; omega), List.take_take, Nat.min_eq_left h0]
  exact hr.imp_ (fun p u hp => d.M_move (fun k' hk' => hfar k' (fun he => hk'.2 (by rw [← hgo, he]))) hp)
set_option maxHeartbeats 4000000 in
set_option maxRecDepth 100000 in
theorem slices_Delete_int_int.del (base : Nat) (w0 W : World) (ok : Nat → Prop) (A : Option Addr) (c : Nat) (xs : List Int) (HO : Kd.R (Kd.int .i64) 3 W base ok (.slice A xs.length c) xs) (HB : Below base w0 W) (hbase : base ≤ W.heap.size) (i j : Int) (h0 : 0 ≤ i) (h1 : i < (xs.length : Int)) (hj : j = wrap64 (i + 1)) :
    Calls Try.prog 38 #[.slice A xs.length c, .int .i64 i, .int .i64 j] W fun e w1 => ∃ v1 : Value, e = .returned v1 ∧ Kd.R (Kd.int .i64) 3 w1 base ok v1 (xs.eraseIdx i.toNat) ∧ Below base w0 w1 ∧ W.grownBy w1 (Value.slice A xs.length c).ownBlock ∧ (v1.ownBlock = (Value.slice A xs.length c).ownBlock ∨ ∃ b, v1.ownBlock = some b ∧ W.heap.size ≤ b) := by
  obtain ⟨k, rfl⟩ : ∃ k : Nat, i = (k : Int) := ⟨i.toNat, by omega⟩
  have hk : k < xs.length := by omega
  obtain ⟨g, cap, e, hb, hlt, _⟩ := Kd.R_form HO (by omega)
  injection e with ea _ ec
  subst ea
  subst ec
  obtain ⟨_, hnc, hC⟩ := Kd.R_reads' HO
  have hnm := hC.2.1
  have hcm : c ≤ 9223372036854775807 := by
    obtain ⟨_, inner, ho, _⟩ := HO
    rcases ho.2 with ⟨hv, _⟩ | ⟨_, _, _, hv, _, _, _, hm, _⟩
    · cases hv
    injection hv with _ _ e2
    rw [e2]
    exact hm
  obtain rfl : j = ((k + 1 : Nat) : Int) := by rw [hj, Go.Proofs.Ythabcadkaocciaa.Base.wr _ (by omega) (by omega)]; omega
  obtain ⟨i0, hi, hz⟩ := Option.map_eq_some_iff.1 info3
  simp only [Prod.mk.injEq] at hz
  obtain ⟨hz0, hz1, hz2⟩ := hz
  have hsz : i0.size = (Kd.int IntKind.i64).sz := hz1
  obtain ⟨A2, hA2⟩ : ∃ A2 : Option Addr, A2 = if c = k + 1 then some ⟨g, 0, none⟩ else (some (⟨g, 0, none⟩ : Addr)).map (·.add ((k + 1) * (Kd.int IntKind.i64).sz)) := ⟨_, rfl⟩
  obtain ⟨W1, hr, hR1, hg1⟩ := Kd.R_delete_run (P := Try.prog) (Kd.int .i64) base 24 24 3 i0 Try.underlying24 hi hsz (Kd.R_drew HO) hk hA2 (c - (k + 1))
  have zv : ∀ w : World, (zeroValue 3).run Try.prog w = .ok (.int .i64 0) w := fun w => by rfl
  have hcell : ∃ cur : Array Value, W1.heap[g]? = some (.cells cur 3 (0, 0)) ∧ cur.size = c := by
    obtain ⟨_, inner, ho, _⟩ := hR1
    rcases ho.2 with ⟨hv, _⟩ | ⟨g', cap', cur, hv, _, hh, _, _, hcs, _⟩
    · cases hv
    injection hv with ha _ hc
    injection ha with ha
    injection ha with hg
    subst hg
    subst hc
    exact ⟨cur, hh, by rw [hcs]; exact Nat.mul_one _⟩
  obtain ⟨cur, hh, hcs⟩ := hcell
  have hcl := fun ty => Go.Lib.run_clear_slice W1 24 3 ty (.int .i64 0) Try.underlying24 zv rfl rfl g (xs.length - 1) (xs.length - (xs.length - 1)) (c - (xs.length - 1)) (by omega) (fun j hj => by rw [cell_of_row W1 g _ cur 3 (0, 0) hh]; simp; omega) (fun j hj => blk_frozen hh _)
  have hpast := R_past (Kd.int .i64) hR1 (xs.length - 1) (List.replicate (xs.length - (xs.length - 1)) (.int .i64 0)) (by show (xs.length - 1) * 1 ≤ _; omega) (by show _ ≤ c * 1; simp; omega)
  have HR1 := Aside0.mk hR1
  have HP := Aside0.mk hpast
  have HG := Aside0.mk hg1
  have HBB := Aside0.mk HB
  have HBE := Aside0.mk hbase
  have hic : k ≤ c := by omega
  have hjc : k + 1 ≤ c := by omega
  have hkn : k ≤ xs.length := by omega
  have hk1 : k + 1 ≤ xs.length := by omega
  clear HO HB hbase hR1 hpast hg1 hC hj zv hh hcs cur hi hz0 hz1 hz2 hsz i0
  generalize hn : xs.length = n at *
  clear hn
  have hk2 : (k : Int) + 1 ≤ (n : Int) := by omega
  have hk3 : 0 ≤ (k : Int) + 1 := by omega
  have mixed : Try.prog.follows Departure.mixedOrders = true := by kernel_rfl
  have hA3 : (if c = k + 1 then some (⟨g, 0, none⟩ : Addr) else some ⟨g, k + 1, none⟩) = A2 := by
    rw [hA2]
    by_cases z : c = k + 1
    · rw [if_pos z, if_pos z]
    rw [if_neg z, if_neg z]
    simp [Addr.add, show (Kd.int IntKind.i64).sz = 1 from rfl]
  clear hA2
  go_enter Try.func38, Try.ntmps38
  go_wp2_with fail
  go_region_law_o (refine step_append_runE rfl (.tmp 22) (.tmp 25) 24 24 rfl (.slice (some ⟨g, 0, none⟩) k c) (.slice A2 (n - (k + 1)) (c - (k + 1))) (by simp [Act.eval, Act.put]) (by simp [Act.eval, Act.put]) hr ?_)
  go_wp2
  go_ret
  refine ⟨_, rfl, by rw [Int.toNat_natCast]; exact HP.out.1, ?_, ?_, .inl (by simp [Value.ownBlock])⟩
  · have h1 := (below_drew1 HBB.out).grown HG.out (show base ≤ W.drew.heap.size from HBE.out) (fun q hq => by injection hq with hq; subst hq; exact hb)
    exact h1.grown HP.out.2 (Nat.le_trans (show base ≤ W.drew.heap.size from HBE.out) HG.out.size) (fun q hq => by injection hq with hq; subst hq; exact hb)
  have e : (Value.slice (some (⟨g, 0, none⟩ : Addr)) n c).ownBlock = some g := by simp [Value.ownBlock]
  rw [e]
  have h0 : W.grownBy W.drew (some g) := ⟨rfl, rfl, rfl, Nat.le_refl _, fun _ _ _ => rfl⟩
  exact (h0.trans HG.out).trans HP.out.2

end Go.Proofs.Ythabcadkaocciaa.Print
