/- Go functions as plain Lean functions, and that the Go code answers just as these, wherever they answer. Conditions: those of each theorem. Written by a program of this session (wip/patch.py). -/
import Derived.Test.YtbihinhckmfplaaPrint0
import Derived.Test.YtbihinhckmfplaaPrintImplTaskOk0
namespace Go.Proofs.Ytbihinhckmfplaa.Print
open Go.RowKit Go.Proofs.Ytbihinhckmfplaa.Base Go.Proofs.YtbihinhckmfplaaW.PrintWords Go.Proofs.YtbihinhckmfplaaW.PrintLast Go.Proofs.YtbihinhckmfplaaW.PrintMore
attribute [local go_sem] max2_int min2_int max_two min_two max_three min_three max_four min_four   -- for this text's walks alone
set_option linter.unusedVariables false
set_option linter.unusedSimpArgs false

/-! ### impl_TasksOk: function 17 -/
def impl_TasksOk.l0 : Nat → List (S30) → List (S30) → Int → Int → Option (Bool)
  | 0, _, _, _, _ => none
  | k + 1, x0, x5, x6, x7 => if x7 < x6 then (if 0 ≤ x7 then (if x7 < (x5.length : Int) then ((impl_TaskOk.f ((rd_T30 x5 x7).f0) ((rd_T30 x5 x7).f1) ((rd_T30 x5 x7).f2) ((rd_T30 x5 x7).f3) ((rd_T30 x5 x7).f4) ((rd_T30 x5 x7).f5) ((rd_T30 x5 x7).f6) ((rd_T30 x5 x7).f7) ((rd_T30 x5 x7).f8) ((rd_T30 x5 x7).f9) ((rd_T30 x5 x7).f10) ((rd_T30 x5 x7).f11) ((rd_T30 x5 x7).f12) ((rd_T30 x5 x7).f13)).bind fun t103 => (if t103 = true then (if x7 > 0 then (if 0 ≤ (wrap64 (x7 - 1)) then (if (wrap64 (x7 - 1)) < (x0.length : Int) then (if ((rd_T30 x0 (wrap64 (x7 - 1))).f0) ≥ ((rd_T30 x5 x7).f0) then (some false) else (impl_TasksOk.l0 k x0 x5 x6 (wrap64 (x7 + 1)))) else (none)) else (none)) else (impl_TasksOk.l0 k x0 x5 x6 (wrap64 (x7 + 1)))) else (some false))) else (none)) else (none)) else (some (decide ((x0.length : Int) ≤ 12)))
def impl_TasksOk.f (k : Nat) (l0 : List (S30)) : Option (Bool) := impl_TasksOk.l0 k l0 l0 (l0.length : Int) 0
theorem impl_TasksOk.mono_l : ∀ k, (∀ y0 y1 y2 y3, LeO (impl_TasksOk.l0 k y0 y1 y2 y3) (impl_TasksOk.l0 (k + 1) y0 y1 y2 y3))
  | 0 => fun _ _ _ _ r h => by simp [impl_TasksOk.l0] at h
  | k + 1 => by
    have ih0 := impl_TasksOk.mono_l k
    intro y0 y1 y2 y3
    unfold impl_TasksOk.l0
    repeat' first
    | (with_reducible exact ih0 _ _ _ _)
    | (with_reducible exact LeO.refl _)
    | (with_reducible exact LeO.none _)
    | (with_reducible refine LeO.ite ?_ ?_)
    | (with_reducible refine LeO.bind ?_ (fun _ => ?_))
    | exact ih0 _ _ _ _
    | exact LeO.none _
    | refine LeO.ite ?_ ?_
    | refine LeO.bind ?_ (fun _ => ?_)
theorem impl_TasksOk.mono : ∀ a0 k, LeO (impl_TasksOk.f k a0) (impl_TasksOk.f (k + 1) a0) := by
  intro a0 k
  have ih0 := impl_TasksOk.mono_l k
  unfold impl_TasksOk.f
  repeat' first
      | (with_reducible exact ih0 _ _ _ _)
      | (with_reducible exact LeO.refl _)
      | (with_reducible exact LeO.none _)
      | (with_reducible refine LeO.ite ?_ ?_)
      | (with_reducible refine LeO.bind ?_ (fun _ => ?_))
      | exact ih0 _ _ _ _
      | exact LeO.none _
      | refine LeO.ite ?_ ?_
      | refine LeO.bind ?_ (fun _ => ?_)
def impl_TasksOk.T4 : Bool × List (List Nat × List Nat) := (true, [([], []), ([0], [0]), ([1], [1]), ([2, 1], [2]), ([3], [3]), ([4, 3], [3, 4]), ([5, 3, 3], [3, 5]), ([6], [6]), ([6], [6]), ([8, 6], [6, 8]), ([7, 9, 6], [6, 7, 9]), ([10, 6], [6, 10]), ([11, 6], [6, 11]), ([6], [6]), ([13, 6], [6, 13]), ([12, 14, 6], [6, 12, 14]), ([6, 15, 3], [3, 6, 15]), ([3, 16], [3, 16])])
def impl_TasksOk.B4 : List Nat := [0, 1, 3, 7, 15, 31, 63, 127, 127, 383, 1023, 2047, 4095, 127, 8319, 32767, 65535, 131071]
theorem impl_TasksOk.tab4 : rtab .any (opsOf Try.f17 4) = impl_TasksOk.T4 := by kernel_rfl
theorem impl_TasksOk.bits4 : waitsOk impl_TasksOk.T4.2 impl_TasksOk.B4 = true := by kernel_rfl
set_option maxHeartbeats 8000000 in
set_option maxRecDepth 100000 in
theorem impl_TasksOk.calls (k : Nat) (A0 : Option Addr) (c0 : Nat) (l0 : List (S30)) (r : Bool) (w : World) (hr0 : Kd.C k30 w A0 l0.length l0) (hc0 : l0.length ≤ c0) (h : impl_TasksOk.f k l0 = some r) :
    Calls Try.prog 17 #[.slice A0 l0.length c0] w fun e w' => e = .returned (.bool r) ∧ Below w.heap.size w w' := by
  have hu30 := Try.underlying30
  have HR0 := Aside0.mk hr0
  have HC0 := Aside0.mk hc0
  clear hr0 hc0
  have HB := aM (Below.refl w.heap.size w)
  have H : (impl_TasksOk.l0 k l0 l0 (l0.length : Int) 0) = some r := h
  clear h
  have H' := Aside0.mk H
  clear H
  go_enter Try.func17, Try.ntmps17
  go_wp2
  go_loopg [7] k (fun kq v7 w' => ∃ (x7_1 : Int), v7 = .int .i64 x7_1 ∧ Aside0 (impl_TasksOk.l0 kq l0 l0 (l0.length : Int) x7_1 = some r) ∧ Aside0 (kq ≤ k) ∧ Aside0 (Below w.heap.size w w'))
  case atStart => exact ⟨(0), (by first | rfl | (simp; done) | (simp [*]; done)), H', ⟨Nat.le_refl _⟩, ⟨bq HB⟩⟩
  case round =>
    clear H'
    try clear c1
    obtain ⟨x7_1, rfl, HA, HK1, HB⟩ := hrel
    cases gk with
    | zero => exact absurd HA.out (by simp [impl_TasksOk.l0])
    | succ k1 =>
      have H := HA.out
      clear HA
      simp only [impl_TasksOk.l0] at H
      by_cases c2 : x7_1 < (l0.length : Int)
      · rw [if_pos c2] at H
        have c2b0 : decide (x7_1 < (l0.length : Int)) = true := decide_eq_true c2
        clear c2
        by_cases c3 : 0 ≤ x7_1
        · rw [if_pos c3] at H
          have c3b0 : decide (0 ≤ x7_1) = true := decide_eq_true c3
          clear c3
          by_cases c4 : x7_1 < (l0.length : Int)
          · rw [if_pos c4] at H
            have c4b0 : decide (x7_1 < (l0.length : Int)) = true := decide_eq_true c4
            clear c4
            replace H := Option.bind_eq_some_iff.mp H
            obtain ⟨t103, A50, H⟩ := H
            replace H : (if t103 = true then (if x7_1 > 0 then (if 0 ≤ (wrap64 (x7_1 - 1)) then (if (wrap64 (x7_1 - 1)) < (l0.length : Int) then (if ((rd_T30 l0 (wrap64 (x7_1 - 1))).f0) ≥ ((rd_T30 l0 x7_1).f0) then (some false) else (impl_TasksOk.l0 k1 l0 l0 (l0.length : Int) (wrap64 (x7_1 + 1)))) else (none)) else (none)) else (impl_TasksOk.l0 k1 l0 l0 (l0.length : Int) (wrap64 (x7_1 + 1)))) else (some false)) = some r := H
            have A5 := Aside0.mk A50
            clear A50
            by_cases c6 : t103 = true
            · subst c6
              have H1 : (if x7_1 > 0 then (if 0 ≤ (wrap64 (x7_1 - 1)) then (if (wrap64 (x7_1 - 1)) < (l0.length : Int) then (if ((rd_T30 l0 (wrap64 (x7_1 - 1))).f0) ≥ ((rd_T30 l0 x7_1).f0) then (some false) else (impl_TasksOk.l0 k1 l0 l0 (l0.length : Int) (wrap64 (x7_1 + 1)))) else (none)) else (none)) else (impl_TasksOk.l0 k1 l0 l0 (l0.length : Int) (wrap64 (x7_1 + 1)))) = some r := by rw [if_pos rfl] at H; exact H
              clear H
              have H := H1
              clear H1
              by_cases c7 : x7_1 > 0
              · rw [if_pos c7] at H
                have c7b0 : decide (0 < x7_1) = true := decide_eq_true c7
                clear c7
                obtain ⟨ji8, hji8⟩ : ∃ j_ : Int, (wrap64 (x7_1 - 1)) = j_ := ⟨_, rfl⟩
                replace H : (if 0 ≤ (ji8) then (if (ji8) < (l0.length : Int) then (if ((rd_T30 l0 (ji8)).f0) ≥ ((rd_T30 l0 x7_1).f0) then (some false) else (impl_TasksOk.l0 k1 l0 l0 (l0.length : Int) (wrap64 (x7_1 + 1)))) else (none)) else (none)) = some r := by first | (rw [hji8] at H; exact H) | (simp only [hji8] at H ⊢; exact H)
                (try rw [hji8] at A5)
                have hji8w : (IntKind.i64.wrap (x7_1 - 1)) = ji8 := (i64_w _).trans hji8
                by_cases c9 : 0 ≤ (ji8)
                · rw [if_pos c9] at H
                  have c9b0 : decide (0 ≤ (ji8)) = true := decide_eq_true c9
                  clear c9
                  by_cases c10 : (ji8) < (l0.length : Int)
                  · rw [if_pos c10] at H
                    have c10b0 : decide ((ji8) < (l0.length : Int)) = true := decide_eq_true c10
                    clear c10
                    by_cases c11 : ((rd_T30 l0 (ji8)).f0) ≥ ((rd_T30 l0 x7_1).f0)
                    · rw [if_pos c11] at H
                      have c11b0 : decide (((rd_T30 l0 x7_1).f0) ≤ ((rd_T30 l0 (ji8)).f0)) = true := decide_eq_true c11
                      clear c11
                      obtain rfl := Option.some.inj H
                      have p101 : 0 ≤ (x7_1 : Int) := of_decide_eq_true (by first | (with_reducible assumption) | assumption)
                      have q101 : x7_1 < (l0.length : Int) := of_decide_eq_true (by first | (with_reducible assumption) | assumption)
                      obtain ⟨ad101, e101, hx101_0, hx101_1, hx101_2, hx101_3, hx101_4, hx101_5, hx101_6, hx101_7, hx101_8, hx101_9, hx101_10, hx101_11, hx101_12, hx101_13⟩ := at_T30 HR0.out x7_1 p101 q101
                      cases e101
                      have hmv_ := mv14 HB.out hx101_0 hx101_1 hx101_2 hx101_3 hx101_4 hx101_5 hx101_6 hx101_7 hx101_8 hx101_9 hx101_10 hx101_11 hx101_12 hx101_13
                      clear hx101_0 hx101_1 hx101_2 hx101_3 hx101_4 hx101_5 hx101_6 hx101_7 hx101_8 hx101_9 hx101_10 hx101_11 hx101_12 hx101_13
                      obtain ⟨hx101_0, hx101_1, hx101_2, hx101_3, hx101_4, hx101_5, hx101_6, hx101_7, hx101_8, hx101_9, hx101_10, hx101_11, hx101_12, hx101_13⟩ := hmv_
                      replace p101 := eq_true p101
                      replace q101 := eq_true q101
                      try go_wp2_with (first | ((with_reducible refine gate_dst (N := 4) rfl ?_); refine box_event ?hg (N := 4) ?hd (cs := tk14 0 0 0 0 false 0 0 0 0 0 0 0 0 0) (t := 30) ?hr ?_; (case hd => rfl); (case hg => rfl); (case hr => first | (go_simp; done) | (go_simp; rfl)); intro gb102 hg w12 hbox hb; have n0_ := aM (below_step (bq HB) hb); have n1_ := aM (hbox); have n2_ := aM ((by rw [hg]; exact (below_size (bq HB)) : w.heap.size ≤ gb102)); have n3_ := n2_; clear HB; have HB := n0_; have BK102 := n1_; have GW102 := n2_; have GE102 := n3_; clear n0_ n1_ n2_ n3_; clear hb hbox hg; obtain ⟨_,_,_,_,_,_,_,_,_,_,_,_,_,_⟩ := cz14 BK102.out; have hfz13_0 := blk_frozen BK102.out))
                      have n0_ : Aside0 (((((((((((((((w12.setCell ⟨gb102, 0, none⟩ (.int .i64 ((rd_T30 l0 x7_1).f0))).setCell ⟨gb102, 1, none⟩ (.int .i64 ((rd_T30 l0 x7_1).f1))).setCell ⟨gb102, 2, none⟩ (.int .i64 ((rd_T30 l0 x7_1).f2))).setCell ⟨gb102, 3, none⟩ (.int .i64 ((rd_T30 l0 x7_1).f3))).setCell ⟨gb102, 4, none⟩ (.bool ((rd_T30 l0 x7_1).f4))).setCell ⟨gb102, 5, none⟩ (.int .i64 ((rd_T30 l0 x7_1).f5))).setCell ⟨gb102, 6, none⟩ (.int .i64 ((rd_T30 l0 x7_1).f6))).setCell ⟨gb102, 7, none⟩ (.int .i64 ((rd_T30 l0 x7_1).f7))).setCell ⟨gb102, 8, none⟩ (.int .i64 ((rd_T30 l0 x7_1).f8))).setCell ⟨gb102, 9, none⟩ (.int .i64 ((rd_T30 l0 x7_1).f9))).setCell ⟨gb102, 10, none⟩ (.int .i64 ((rd_T30 l0 x7_1).f10))).setCell ⟨gb102, 11, none⟩ (.int .i64 ((rd_T30 l0 x7_1).f11))).setCell ⟨gb102, 12, none⟩ (.int .i64 ((rd_T30 l0 x7_1).f12))).setCell ⟨gb102, 13, none⟩ (.int .i64 ((rd_T30 l0 x7_1).f13))).heap[gb102]? = some (.cells #[.int .i64 ((rd_T30 l0 x7_1).f0), .int .i64 ((rd_T30 l0 x7_1).f1), .int .i64 ((rd_T30 l0 x7_1).f2), .int .i64 ((rd_T30 l0 x7_1).f3), .bool ((rd_T30 l0 x7_1).f4), .int .i64 ((rd_T30 l0 x7_1).f5), .int .i64 ((rd_T30 l0 x7_1).f6), .int .i64 ((rd_T30 l0 x7_1).f7), .int .i64 ((rd_T30 l0 x7_1).f8), .int .i64 ((rd_T30 l0 x7_1).f9), .int .i64 ((rd_T30 l0 x7_1).f10), .int .i64 ((rd_T30 l0 x7_1).f11), .int .i64 ((rd_T30 l0 x7_1).f12), .int .i64 ((rd_T30 l0 x7_1).f13)] 30 (0, 0))) := ⟨by refine put14 (cs := tk14 0 0 0 0 false 0 0 0 0 0 0 0 0 0) ?_; (with_reducible repeat (first | apply bkD | apply bkd | apply bkA)); exact BK102.out⟩
                      have n1_ : Aside0 (Below w.heap.size w ((((((((((((((w12.setCell ⟨gb102, 0, none⟩ (.int .i64 ((rd_T30 l0 x7_1).f0))).setCell ⟨gb102, 1, none⟩ (.int .i64 ((rd_T30 l0 x7_1).f1))).setCell ⟨gb102, 2, none⟩ (.int .i64 ((rd_T30 l0 x7_1).f2))).setCell ⟨gb102, 3, none⟩ (.int .i64 ((rd_T30 l0 x7_1).f3))).setCell ⟨gb102, 4, none⟩ (.bool ((rd_T30 l0 x7_1).f4))).setCell ⟨gb102, 5, none⟩ (.int .i64 ((rd_T30 l0 x7_1).f5))).setCell ⟨gb102, 6, none⟩ (.int .i64 ((rd_T30 l0 x7_1).f6))).setCell ⟨gb102, 7, none⟩ (.int .i64 ((rd_T30 l0 x7_1).f7))).setCell ⟨gb102, 8, none⟩ (.int .i64 ((rd_T30 l0 x7_1).f8))).setCell ⟨gb102, 9, none⟩ (.int .i64 ((rd_T30 l0 x7_1).f9))).setCell ⟨gb102, 10, none⟩ (.int .i64 ((rd_T30 l0 x7_1).f10))).setCell ⟨gb102, 11, none⟩ (.int .i64 ((rd_T30 l0 x7_1).f11))).setCell ⟨gb102, 12, none⟩ (.int .i64 ((rd_T30 l0 x7_1).f12))).setCell ⟨gb102, 13, none⟩ (.int .i64 ((rd_T30 l0 x7_1).f13)))) := ⟨bq HB⟩
                      (try clear BK102)
                      (try clear HB)
                      generalize ((((((((((((((w12.setCell ⟨gb102, 0, none⟩ (.int .i64 ((rd_T30 l0 x7_1).f0))).setCell ⟨gb102, 1, none⟩ (.int .i64 ((rd_T30 l0 x7_1).f1))).setCell ⟨gb102, 2, none⟩ (.int .i64 ((rd_T30 l0 x7_1).f2))).setCell ⟨gb102, 3, none⟩ (.int .i64 ((rd_T30 l0 x7_1).f3))).setCell ⟨gb102, 4, none⟩ (.bool ((rd_T30 l0 x7_1).f4))).setCell ⟨gb102, 5, none⟩ (.int .i64 ((rd_T30 l0 x7_1).f5))).setCell ⟨gb102, 6, none⟩ (.int .i64 ((rd_T30 l0 x7_1).f6))).setCell ⟨gb102, 7, none⟩ (.int .i64 ((rd_T30 l0 x7_1).f7))).setCell ⟨gb102, 8, none⟩ (.int .i64 ((rd_T30 l0 x7_1).f8))).setCell ⟨gb102, 9, none⟩ (.int .i64 ((rd_T30 l0 x7_1).f9))).setCell ⟨gb102, 10, none⟩ (.int .i64 ((rd_T30 l0 x7_1).f10))).setCell ⟨gb102, 11, none⟩ (.int .i64 ((rd_T30 l0 x7_1).f11))).setCell ⟨gb102, 12, none⟩ (.int .i64 ((rd_T30 l0 x7_1).f12))).setCell ⟨gb102, 13, none⟩ (.int .i64 ((rd_T30 l0 x7_1).f13))) = w14 at n0_ n1_ ⊢
                      have BK102 := n0_
                      have HB := n1_
                      clear n0_ n1_
                      have n0_ := aM (blk_drew BK102.out)
                      have n1_ := aM (below_drew1 HB.out)
                      clear BK102 HB
                      have BK102 := n0_
                      have HB := n1_
                      clear n0_ n1_
                      have p104 : 0 ≤ ((ji8) : Int) := of_decide_eq_true (by first | (with_reducible assumption) | assumption)
                      have q104 : (ji8) < (l0.length : Int) := of_decide_eq_true (by first | (with_reducible assumption) | assumption)
                      obtain ⟨ad104, e104, hx104_0, hx104_1, hx104_2, hx104_3, hx104_4, hx104_5, hx104_6, hx104_7, hx104_8, hx104_9, hx104_10, hx104_11, hx104_12, hx104_13⟩ := at_T30 HR0.out (ji8) p104 q104
                      have hw104_13 := hx104_13
                      have hw104_12 := hx104_12
                      have hw104_11 := hx104_11
                      have hw104_10 := hx104_10
                      have hw104_9 := hx104_9
                      have hw104_8 := hx104_8
                      have hw104_7 := hx104_7
                      have hw104_6 := hx104_6
                      have hw104_5 := hx104_5
                      have hw104_4 := hx104_4
                      have hw104_3 := hx104_3
                      have hw104_2 := hx104_2
                      have hw104_1 := hx104_1
                      have hw104_0 := hx104_0
                      obtain rfl : ad101 = ad104 := (by injection e104)
                      have hmv_ := mv14 HB.out hx104_0 hx104_1 hx104_2 hx104_3 hx104_4 hx104_5 hx104_6 hx104_7 hx104_8 hx104_9 hx104_10 hx104_11 hx104_12 hx104_13
                      clear hx104_0 hx104_1 hx104_2 hx104_3 hx104_4 hx104_5 hx104_6 hx104_7 hx104_8 hx104_9 hx104_10 hx104_11 hx104_12 hx104_13
                      obtain ⟨hx104_0, hx104_1, hx104_2, hx104_3, hx104_4, hx104_5, hx104_6, hx104_7, hx104_8, hx104_9, hx104_10, hx104_11, hx104_12, hx104_13⟩ := hmv_
                      replace p104 := eq_true p104
                      replace q104 := eq_true q104
                      refine start_ (n := 18) (S := fun w' => cb14t w' gb102 (.int .i64 ((rd_T30 l0 x7_1).f0)) (.int .i64 ((rd_T30 l0 x7_1).f1)) (.int .i64 ((rd_T30 l0 x7_1).f2)) (.int .i64 ((rd_T30 l0 x7_1).f3)) (.bool ((rd_T30 l0 x7_1).f4)) (.int .i64 ((rd_T30 l0 x7_1).f5)) (.int .i64 ((rd_T30 l0 x7_1).f6)) (.int .i64 ((rd_T30 l0 x7_1).f7)) (.int .i64 ((rd_T30 l0 x7_1).f8)) (.int .i64 ((rd_T30 l0 x7_1).f9)) (.int .i64 ((rd_T30 l0 x7_1).f10)) (.int .i64 ((rd_T30 l0 x7_1).f11)) (.int .i64 ((rd_T30 l0 x7_1).f12)) (.int .i64 ((rd_T30 l0 x7_1).f13)) (ca14 w' (ad101.add (((ji8)).toNat * 14)) (.int .i64 ((rd_T30 l0 (ji8)).f0)) (.int .i64 ((rd_T30 l0 (ji8)).f1)) (.int .i64 ((rd_T30 l0 (ji8)).f2)) (.int .i64 ((rd_T30 l0 (ji8)).f3)) (.bool ((rd_T30 l0 (ji8)).f4)) (.int .i64 ((rd_T30 l0 (ji8)).f5)) (.int .i64 ((rd_T30 l0 (ji8)).f6)) (.int .i64 ((rd_T30 l0 (ji8)).f7)) (.int .i64 ((rd_T30 l0 (ji8)).f8)) (.int .i64 ((rd_T30 l0 (ji8)).f9)) (.int .i64 ((rd_T30 l0 (ji8)).f10)) (.int .i64 ((rd_T30 l0 (ji8)).f11)) (.int .i64 ((rd_T30 l0 (ji8)).f12)) (.int .i64 ((rd_T30 l0 (ji8)).f13)))) (ds := []) #[nn,nn,nn,nn,nn,nn,nn,nn,nn,nn,nn,nn,nn,nn,nn,nn,nn,nn] (by kernel_rfl) rfl rfl ⟨(blk_cell BK102.out 0).trans rfl, (blk_cell BK102.out 1).trans rfl, (blk_cell BK102.out 2).trans rfl, (blk_cell BK102.out 3).trans rfl, (blk_cell BK102.out 4).trans rfl, (blk_cell BK102.out 5).trans rfl, (blk_cell BK102.out 6).trans rfl, (blk_cell BK102.out 7).trans rfl, (blk_cell BK102.out 8).trans rfl, (blk_cell BK102.out 9).trans rfl, (blk_cell BK102.out 10).trans rfl, (blk_cell BK102.out 11).trans rfl, (blk_cell BK102.out 12).trans rfl, (blk_cell BK102.out 13).trans rfl, ((HB.out.cell (World.block_lt_of_cell? w _ hw104_0)).trans hw104_0), ((HB.out.cell (World.block_lt_of_cell? w _ hw104_1)).trans hw104_1), ((HB.out.cell (World.block_lt_of_cell? w _ hw104_2)).trans hw104_2), ((HB.out.cell (World.block_lt_of_cell? w _ hw104_3)).trans hw104_3), ((HB.out.cell (World.block_lt_of_cell? w _ hw104_4)).trans hw104_4), ((HB.out.cell (World.block_lt_of_cell? w _ hw104_5)).trans hw104_5), ((HB.out.cell (World.block_lt_of_cell? w _ hw104_6)).trans hw104_6), ((HB.out.cell (World.block_lt_of_cell? w _ hw104_7)).trans hw104_7), ((HB.out.cell (World.block_lt_of_cell? w _ hw104_8)).trans hw104_8), ((HB.out.cell (World.block_lt_of_cell? w _ hw104_9)).trans hw104_9), ((HB.out.cell (World.block_lt_of_cell? w _ hw104_10)).trans hw104_10), ((HB.out.cell (World.block_lt_of_cell? w _ hw104_11)).trans hw104_11), ((HB.out.cell (World.block_lt_of_cell? w _ hw104_12)).trans hw104_12), ((HB.out.cell (World.block_lt_of_cell? w _ hw104_13)).trans hw104_13)⟩ (fun hHeld => ?_); refine with_tabW impl_TasksOk.tab4 impl_TasksOk.bits4 (fun HT_ HW_ => ?_)
                      generalize w14.drew = w15 at BK102 HB hx104_0 hx104_1 hx104_10 hx104_11 hx104_12 hx104_13 hx104_2 hx104_3 hx104_4 hx104_5 hx104_6 hx104_7 hx104_8 hx104_9 hHeld ⊢
                      refine tQ (i := 0) (N := some 12) #[yy,nn,nn,nn,nn,nn,nn,nn,nn,nn,nn,nn,nn,nn,nn,nn,nn,nn] (take_ofW HT_.out HW_.out (by kernel_rfl)) hHeld ?_
                      refine one_ (i := 1) (N := some 13) #[yy,yy,nn,nn,nn,nn,nn,nn,nn,nn,nn,nn,nn,nn,nn,nn,nn,nn] rfl rfl (one_of HT_.out (by kernel_rfl)) (by decide) (fun K hK => ?_)
                      refine goes_ Try.func15 (by kernel_rfl) rfl #[.agg #[.int .i64 ((rd_T30 l0 x7_1).f0), .int .i64 ((rd_T30 l0 x7_1).f1), .int .i64 ((rd_T30 l0 x7_1).f2), .int .i64 ((rd_T30 l0 x7_1).f3), .bool ((rd_T30 l0 x7_1).f4), .int .i64 ((rd_T30 l0 x7_1).f5), .int .i64 ((rd_T30 l0 x7_1).f6), .int .i64 ((rd_T30 l0 x7_1).f7), .int .i64 ((rd_T30 l0 x7_1).f8), .int .i64 ((rd_T30 l0 x7_1).f9), .int .i64 ((rd_T30 l0 x7_1).f10), .int .i64 ((rd_T30 l0 x7_1).f11), .int .i64 ((rd_T30 l0 x7_1).f12), .int .i64 ((rd_T30 l0 x7_1).f13)]] (by rfl) rfl rfl (by (try simp only [List.map_toArray, List.map_cons, List.map_nil]); first | done | rfl | (simp only [List.length_drop, List.length_take]; rfl)) ?_
                      with_reducible refine (impl_TaskOk.calls ((rd_T30 l0 x7_1).f0) ((rd_T30 l0 x7_1).f1) ((rd_T30 l0 x7_1).f2) ((rd_T30 l0 x7_1).f3) ((rd_T30 l0 x7_1).f4) ((rd_T30 l0 x7_1).f5) ((rd_T30 l0 x7_1).f6) ((rd_T30 l0 x7_1).f7) ((rd_T30 l0 x7_1).f8) ((rd_T30 l0 x7_1).f9) ((rd_T30 l0 x7_1).f10) ((rd_T30 l0 x7_1).f11) ((rd_T30 l0 x7_1).f12) ((rd_T30 l0 x7_1).f13) true _ A5.out).mono ?_
                      rintro e w16 ⟨rfl, hb⟩
                      refine ⟨_, rfl, ?_⟩
                      have n0_ := aM (blk_below (g := gb102) (o := .cells (tk14 ((rd_T30 l0 x7_1).f0) ((rd_T30 l0 x7_1).f1) ((rd_T30 l0 x7_1).f2) ((rd_T30 l0 x7_1).f3) ((rd_T30 l0 x7_1).f4) ((rd_T30 l0 x7_1).f5) ((rd_T30 l0 x7_1).f6) ((rd_T30 l0 x7_1).f7) ((rd_T30 l0 x7_1).f8) ((rd_T30 l0 x7_1).f9) ((rd_T30 l0 x7_1).f10) ((rd_T30 l0 x7_1).f11) ((rd_T30 l0 x7_1).f12) ((rd_T30 l0 x7_1).f13)) 30 (0, 0)) (kq BK102) hb)
                      have n1_ := aM (below_step (bq HB) hb)
                      clear BK102 HB
                      have BK102 := n0_
                      have HB := n1_
                      clear n0_ n1_
                      (try clear hb)
                      (try clear hb2)
                      (try clear hk)
                      (try clear hi)
                      refine hK.out _ _ ⟨(blk_cell BK102.out 0).trans rfl, (blk_cell BK102.out 1).trans rfl, (blk_cell BK102.out 2).trans rfl, (blk_cell BK102.out 3).trans rfl, (blk_cell BK102.out 4).trans rfl, (blk_cell BK102.out 5).trans rfl, (blk_cell BK102.out 6).trans rfl, (blk_cell BK102.out 7).trans rfl, (blk_cell BK102.out 8).trans rfl, (blk_cell BK102.out 9).trans rfl, (blk_cell BK102.out 10).trans rfl, (blk_cell BK102.out 11).trans rfl, (blk_cell BK102.out 12).trans rfl, (blk_cell BK102.out 13).trans rfl, ((HB.out.cell (World.block_lt_of_cell? w _ hw104_0)).trans hw104_0), ((HB.out.cell (World.block_lt_of_cell? w _ hw104_1)).trans hw104_1), ((HB.out.cell (World.block_lt_of_cell? w _ hw104_2)).trans hw104_2), ((HB.out.cell (World.block_lt_of_cell? w _ hw104_3)).trans hw104_3), ((HB.out.cell (World.block_lt_of_cell? w _ hw104_4)).trans hw104_4), ((HB.out.cell (World.block_lt_of_cell? w _ hw104_5)).trans hw104_5), ((HB.out.cell (World.block_lt_of_cell? w _ hw104_6)).trans hw104_6), ((HB.out.cell (World.block_lt_of_cell? w _ hw104_7)).trans hw104_7), ((HB.out.cell (World.block_lt_of_cell? w _ hw104_8)).trans hw104_8), ((HB.out.cell (World.block_lt_of_cell? w _ hw104_9)).trans hw104_9), ((HB.out.cell (World.block_lt_of_cell? w _ hw104_10)).trans hw104_10), ((HB.out.cell (World.block_lt_of_cell? w _ hw104_11)).trans hw104_11), ((HB.out.cell (World.block_lt_of_cell? w _ hw104_12)).trans hw104_12), ((HB.out.cell (World.block_lt_of_cell? w _ hw104_13)).trans hw104_13)⟩ (fun hHeld => ?_)
                      clear hK K
                      refine nQ (N := some 13) ?_
                      refine pQ (i := 2) (N := some 14) #[yy,yy,yy,nn,nn,nn,nn,nn,nn,nn,nn,nn,nn,nn,nn,nn,nn,nn] (any_of HT_.out (by kernel_rfl)) ?_
                      refine pQ (i := 3) (N := some 15) #[yy,yy,yy,yy,nn,nn,nn,nn,nn,nn,nn,nn,nn,nn,nn,nn,nn,nn] (any_of HT_.out (by kernel_rfl)) ?_
                      refine pQ (i := 4) (N := some 16) #[yy,yy,yy,yy,yy,nn,nn,nn,nn,nn,nn,nn,nn,nn,nn,nn,nn,nn] (any_of HT_.out (by kernel_rfl)) ?_
                      refine pQ (i := 5) (N := some 17) #[yy,yy,yy,yy,yy,yy,nn,nn,nn,nn,nn,nn,nn,nn,nn,nn,nn,nn] (any_of HT_.out (by kernel_rfl)) ?_
                      refine pQ (i := 6) (N := some 18) #[yy,yy,yy,yy,yy,yy,yy,nn,nn,nn,nn,nn,nn,nn,nn,nn,nn,nn] (any_of HT_.out (by kernel_rfl)) ?_
                      refine pQ (i := 7) (N := some 19) #[yy,yy,yy,yy,yy,yy,yy,yy,nn,nn,nn,nn,nn,nn,nn,nn,nn,nn] (any_of HT_.out (by kernel_rfl)) ?_
                      refine pQ (i := 8) (N := some 20) #[yy,yy,yy,yy,yy,yy,yy,yy,yy,nn,nn,nn,nn,nn,nn,nn,nn,nn] (any_of HT_.out (by kernel_rfl)) ?_
                      refine pQ (i := 9) (N := some 21) #[yy,yy,yy,yy,yy,yy,yy,yy,yy,yy,nn,nn,nn,nn,nn,nn,nn,nn] (any_of HT_.out (by kernel_rfl)) ?_
                      refine pQ (i := 10) (N := some 22) #[yy,yy,yy,yy,yy,yy,yy,yy,yy,yy,yy,nn,nn,nn,nn,nn,nn,nn] (any_of HT_.out (by kernel_rfl)) ?_
                      refine pQ (i := 11) (N := some 23) #[yy,yy,yy,yy,yy,yy,yy,yy,yy,yy,yy,yy,nn,nn,nn,nn,nn,nn] (any_of HT_.out (by kernel_rfl)) ?_
                      refine pQ (i := 13) (N := some 25) #[yy,yy,yy,yy,yy,yy,yy,yy,yy,yy,yy,yy,nn,yy,nn,nn,nn,nn] (any_of HT_.out (by kernel_rfl)) ?_
                      refine tQ (i := 12) (N := some 24) #[yy,yy,yy,yy,yy,yy,yy,yy,yy,yy,yy,yy,yy,yy,nn,nn,nn,nn] (take_ofW HT_.out HW_.out (by kernel_rfl)) hHeld ?_
                      refine tQ (i := 14) (N := some 26) #[yy,yy,yy,yy,yy,yy,yy,yy,yy,yy,yy,yy,yy,yy,yy,nn,nn,nn] (take_ofW HT_.out HW_.out (by kernel_rfl)) hHeld ?_
                      refine pQ (i := 15) (N := some 27) #[yy,yy,yy,yy,yy,yy,yy,yy,yy,yy,yy,yy,yy,yy,yy,yy,nn,nn] (any_of HT_.out (by kernel_rfl)) ?_
                      refine pQ (i := 16) (N := some 28) #[yy,yy,yy,yy,yy,yy,yy,yy,yy,yy,yy,yy,yy,yy,yy,yy,yy,nn] (any_of HT_.out (by kernel_rfl)) ?_
                      refine pQ (i := 17) (N := some 29) #[yy,yy,yy,yy,yy,yy,yy,yy,yy,yy,yy,yy,yy,yy,yy,yy,yy,yy] (any_of HT_.out (by kernel_rfl)) ?_
                      refine done_ (done_of HT_.out (by kernel_rfl)) ?_
                      try go_wp2
                      go_ret
                      exact ⟨by first | rfl | (simp [errW_none, errW_some] <;> rfl) | (simp only [← hji8]; first | rfl | (simp [errW_none, errW_some] <;> rfl)) | (simp [*, errW_none, errW_some] <;> rfl), bq HB⟩
                    rw [if_neg c11] at H
                    have c11b0 : decide (((rd_T30 l0 x7_1).f0) ≤ ((rd_T30 l0 (ji8)).f0)) = false := decide_eq_false c11
                    clear c11
                    have H' := Aside0.mk H
                    clear H
                    have p101 : 0 ≤ (x7_1 : Int) := of_decide_eq_true (by first | (with_reducible assumption) | assumption)
                    have q101 : x7_1 < (l0.length : Int) := of_decide_eq_true (by first | (with_reducible assumption) | assumption)
                    obtain ⟨ad101, e101, hx101_0, hx101_1, hx101_2, hx101_3, hx101_4, hx101_5, hx101_6, hx101_7, hx101_8, hx101_9, hx101_10, hx101_11, hx101_12, hx101_13⟩ := at_T30 HR0.out x7_1 p101 q101
                    cases e101
                    have hmv_ := mv14 HB.out hx101_0 hx101_1 hx101_2 hx101_3 hx101_4 hx101_5 hx101_6 hx101_7 hx101_8 hx101_9 hx101_10 hx101_11 hx101_12 hx101_13
                    clear hx101_0 hx101_1 hx101_2 hx101_3 hx101_4 hx101_5 hx101_6 hx101_7 hx101_8 hx101_9 hx101_10 hx101_11 hx101_12 hx101_13
                    obtain ⟨hx101_0, hx101_1, hx101_2, hx101_3, hx101_4, hx101_5, hx101_6, hx101_7, hx101_8, hx101_9, hx101_10, hx101_11, hx101_12, hx101_13⟩ := hmv_
                    replace p101 := eq_true p101
                    replace q101 := eq_true q101
                    try go_wp2_with (first | ((with_reducible refine gate_dst (N := 4) rfl ?_); refine box_event ?hg (N := 4) ?hd (cs := tk14 0 0 0 0 false 0 0 0 0 0 0 0 0 0) (t := 30) ?hr ?_; (case hd => rfl); (case hg => rfl); (case hr => first | (go_simp; done) | (go_simp; rfl)); intro gb102 hg w17 hbox hb; have n0_ := aM (below_step (bq HB) hb); have n1_ := aM (hbox); have n2_ := aM ((by rw [hg]; exact (below_size (bq HB)) : w.heap.size ≤ gb102)); have n3_ := n2_; clear HB; have HB := n0_; have BK102 := n1_; have GW102 := n2_; have GE102 := n3_; clear n0_ n1_ n2_ n3_; clear hb hbox hg; obtain ⟨_,_,_,_,_,_,_,_,_,_,_,_,_,_⟩ := cz14 BK102.out; have hfz18_0 := blk_frozen BK102.out))
                    have n0_ : Aside0 (((((((((((((((w17.setCell ⟨gb102, 0, none⟩ (.int .i64 ((rd_T30 l0 x7_1).f0))).setCell ⟨gb102, 1, none⟩ (.int .i64 ((rd_T30 l0 x7_1).f1))).setCell ⟨gb102, 2, none⟩ (.int .i64 ((rd_T30 l0 x7_1).f2))).setCell ⟨gb102, 3, none⟩ (.int .i64 ((rd_T30 l0 x7_1).f3))).setCell ⟨gb102, 4, none⟩ (.bool ((rd_T30 l0 x7_1).f4))).setCell ⟨gb102, 5, none⟩ (.int .i64 ((rd_T30 l0 x7_1).f5))).setCell ⟨gb102, 6, none⟩ (.int .i64 ((rd_T30 l0 x7_1).f6))).setCell ⟨gb102, 7, none⟩ (.int .i64 ((rd_T30 l0 x7_1).f7))).setCell ⟨gb102, 8, none⟩ (.int .i64 ((rd_T30 l0 x7_1).f8))).setCell ⟨gb102, 9, none⟩ (.int .i64 ((rd_T30 l0 x7_1).f9))).setCell ⟨gb102, 10, none⟩ (.int .i64 ((rd_T30 l0 x7_1).f10))).setCell ⟨gb102, 11, none⟩ (.int .i64 ((rd_T30 l0 x7_1).f11))).setCell ⟨gb102, 12, none⟩ (.int .i64 ((rd_T30 l0 x7_1).f12))).setCell ⟨gb102, 13, none⟩ (.int .i64 ((rd_T30 l0 x7_1).f13))).heap[gb102]? = some (.cells #[.int .i64 ((rd_T30 l0 x7_1).f0), .int .i64 ((rd_T30 l0 x7_1).f1), .int .i64 ((rd_T30 l0 x7_1).f2), .int .i64 ((rd_T30 l0 x7_1).f3), .bool ((rd_T30 l0 x7_1).f4), .int .i64 ((rd_T30 l0 x7_1).f5), .int .i64 ((rd_T30 l0 x7_1).f6), .int .i64 ((rd_T30 l0 x7_1).f7), .int .i64 ((rd_T30 l0 x7_1).f8), .int .i64 ((rd_T30 l0 x7_1).f9), .int .i64 ((rd_T30 l0 x7_1).f10), .int .i64 ((rd_T30 l0 x7_1).f11), .int .i64 ((rd_T30 l0 x7_1).f12), .int .i64 ((rd_T30 l0 x7_1).f13)] 30 (0, 0))) := ⟨by refine put14 (cs := tk14 0 0 0 0 false 0 0 0 0 0 0 0 0 0) ?_; (with_reducible repeat (first | apply bkD | apply bkd | apply bkA)); exact BK102.out⟩
                    have n1_ : Aside0 (Below w.heap.size w ((((((((((((((w17.setCell ⟨gb102, 0, none⟩ (.int .i64 ((rd_T30 l0 x7_1).f0))).setCell ⟨gb102, 1, none⟩ (.int .i64 ((rd_T30 l0 x7_1).f1))).setCell ⟨gb102, 2, none⟩ (.int .i64 ((rd_T30 l0 x7_1).f2))).setCell ⟨gb102, 3, none⟩ (.int .i64 ((rd_T30 l0 x7_1).f3))).setCell ⟨gb102, 4, none⟩ (.bool ((rd_T30 l0 x7_1).f4))).setCell ⟨gb102, 5, none⟩ (.int .i64 ((rd_T30 l0 x7_1).f5))).setCell ⟨gb102, 6, none⟩ (.int .i64 ((rd_T30 l0 x7_1).f6))).setCell ⟨gb102, 7, none⟩ (.int .i64 ((rd_T30 l0 x7_1).f7))).setCell ⟨gb102, 8, none⟩ (.int .i64 ((rd_T30 l0 x7_1).f8))).setCell ⟨gb102, 9, none⟩ (.int .i64 ((rd_T30 l0 x7_1).f9))).setCell ⟨gb102, 10, none⟩ (.int .i64 ((rd_T30 l0 x7_1).f10))).setCell ⟨gb102, 11, none⟩ (.int .i64 ((rd_T30 l0 x7_1).f11))).setCell ⟨gb102, 12, none⟩ (.int .i64 ((rd_T30 l0 x7_1).f12))).setCell ⟨gb102, 13, none⟩ (.int .i64 ((rd_T30 l0 x7_1).f13)))) := ⟨bq HB⟩
                    (try clear BK102)
                    (try clear HB)
                    generalize ((((((((((((((w17.setCell ⟨gb102, 0, none⟩ (.int .i64 ((rd_T30 l0 x7_1).f0))).setCell ⟨gb102, 1, none⟩ (.int .i64 ((rd_T30 l0 x7_1).f1))).setCell ⟨gb102, 2, none⟩ (.int .i64 ((rd_T30 l0 x7_1).f2))).setCell ⟨gb102, 3, none⟩ (.int .i64 ((rd_T30 l0 x7_1).f3))).setCell ⟨gb102, 4, none⟩ (.bool ((rd_T30 l0 x7_1).f4))).setCell ⟨gb102, 5, none⟩ (.int .i64 ((rd_T30 l0 x7_1).f5))).setCell ⟨gb102, 6, none⟩ (.int .i64 ((rd_T30 l0 x7_1).f6))).setCell ⟨gb102, 7, none⟩ (.int .i64 ((rd_T30 l0 x7_1).f7))).setCell ⟨gb102, 8, none⟩ (.int .i64 ((rd_T30 l0 x7_1).f8))).setCell ⟨gb102, 9, none⟩ (.int .i64 ((rd_T30 l0 x7_1).f9))).setCell ⟨gb102, 10, none⟩ (.int .i64 ((rd_T30 l0 x7_1).f10))).setCell ⟨gb102, 11, none⟩ (.int .i64 ((rd_T30 l0 x7_1).f11))).setCell ⟨gb102, 12, none⟩ (.int .i64 ((rd_T30 l0 x7_1).f12))).setCell ⟨gb102, 13, none⟩ (.int .i64 ((rd_T30 l0 x7_1).f13))) = w19 at n0_ n1_ ⊢
                    have BK102 := n0_
                    have HB := n1_
                    clear n0_ n1_
                    have n0_ := aM (blk_drew BK102.out)
                    have n1_ := aM (below_drew1 HB.out)
                    clear BK102 HB
                    have BK102 := n0_
                    have HB := n1_
                    clear n0_ n1_
                    have p104 : 0 ≤ ((ji8) : Int) := of_decide_eq_true (by first | (with_reducible assumption) | assumption)
                    have q104 : (ji8) < (l0.length : Int) := of_decide_eq_true (by first | (with_reducible assumption) | assumption)
                    obtain ⟨ad104, e104, hx104_0, hx104_1, hx104_2, hx104_3, hx104_4, hx104_5, hx104_6, hx104_7, hx104_8, hx104_9, hx104_10, hx104_11, hx104_12, hx104_13⟩ := at_T30 HR0.out (ji8) p104 q104
                    have hw104_13 := hx104_13
                    have hw104_12 := hx104_12
                    have hw104_11 := hx104_11
                    have hw104_10 := hx104_10
                    have hw104_9 := hx104_9
                    have hw104_8 := hx104_8
                    have hw104_7 := hx104_7
                    have hw104_6 := hx104_6
                    have hw104_5 := hx104_5
                    have hw104_4 := hx104_4
                    have hw104_3 := hx104_3
                    have hw104_2 := hx104_2
                    have hw104_1 := hx104_1
                    have hw104_0 := hx104_0
                    obtain rfl : ad101 = ad104 := (by injection e104)
                    have hmv_ := mv14 HB.out hx104_0 hx104_1 hx104_2 hx104_3 hx104_4 hx104_5 hx104_6 hx104_7 hx104_8 hx104_9 hx104_10 hx104_11 hx104_12 hx104_13
                    clear hx104_0 hx104_1 hx104_2 hx104_3 hx104_4 hx104_5 hx104_6 hx104_7 hx104_8 hx104_9 hx104_10 hx104_11 hx104_12 hx104_13
                    obtain ⟨hx104_0, hx104_1, hx104_2, hx104_3, hx104_4, hx104_5, hx104_6, hx104_7, hx104_8, hx104_9, hx104_10, hx104_11, hx104_12, hx104_13⟩ := hmv_
                    replace p104 := eq_true p104
                    replace q104 := eq_true q104
                    refine start_ (n := 18) (S := fun w' => cb14t w' gb102 (.int .i64 ((rd_T30 l0 x7_1).f0)) (.int .i64 ((rd_T30 l0 x7_1).f1)) (.int .i64 ((rd_T30 l0 x7_1).f2)) (.int .i64 ((rd_T30 l0 x7_1).f3)) (.bool ((rd_T30 l0 x7_1).f4)) (.int .i64 ((rd_T30 l0 x7_1).f5)) (.int .i64 ((rd_T30 l0 x7_1).f6)) (.int .i64 ((rd_T30 l0 x7_1).f7)) (.int .i64 ((rd_T30 l0 x7_1).f8)) (.int .i64 ((rd_T30 l0 x7_1).f9)) (.int .i64 ((rd_T30 l0 x7_1).f10)) (.int .i64 ((rd_T30 l0 x7_1).f11)) (.int .i64 ((rd_T30 l0 x7_1).f12)) (.int .i64 ((rd_T30 l0 x7_1).f13)) (ca14 w' (ad101.add (((ji8)).toNat * 14)) (.int .i64 ((rd_T30 l0 (ji8)).f0)) (.int .i64 ((rd_T30 l0 (ji8)).f1)) (.int .i64 ((rd_T30 l0 (ji8)).f2)) (.int .i64 ((rd_T30 l0 (ji8)).f3)) (.bool ((rd_T30 l0 (ji8)).f4)) (.int .i64 ((rd_T30 l0 (ji8)).f5)) (.int .i64 ((rd_T30 l0 (ji8)).f6)) (.int .i64 ((rd_T30 l0 (ji8)).f7)) (.int .i64 ((rd_T30 l0 (ji8)).f8)) (.int .i64 ((rd_T30 l0 (ji8)).f9)) (.int .i64 ((rd_T30 l0 (ji8)).f10)) (.int .i64 ((rd_T30 l0 (ji8)).f11)) (.int .i64 ((rd_T30 l0 (ji8)).f12)) (.int .i64 ((rd_T30 l0 (ji8)).f13)))) (ds := []) #[nn,nn,nn,nn,nn,nn,nn,nn,nn,nn,nn,nn,nn,nn,nn,nn,nn,nn] (by kernel_rfl) rfl rfl ⟨(blk_cell BK102.out 0).trans rfl, (blk_cell BK102.out 1).trans rfl, (blk_cell BK102.out 2).trans rfl, (blk_cell BK102.out 3).trans rfl, (blk_cell BK102.out 4).trans rfl, (blk_cell BK102.out 5).trans rfl, (blk_cell BK102.out 6).trans rfl, (blk_cell BK102.out 7).trans rfl, (blk_cell BK102.out 8).trans rfl, (blk_cell BK102.out 9).trans rfl, (blk_cell BK102.out 10).trans rfl, (blk_cell BK102.out 11).trans rfl, (blk_cell BK102.out 12).trans rfl, (blk_cell BK102.out 13).trans rfl, ((HB.out.cell (World.block_lt_of_cell? w _ hw104_0)).trans hw104_0), ((HB.out.cell (World.block_lt_of_cell? w _ hw104_1)).trans hw104_1), ((HB.out.cell (World.block_lt_of_cell? w _ hw104_2)).trans hw104_2), ((HB.out.cell (World.block_lt_of_cell? w _ hw104_3)).trans hw104_3), ((HB.out.cell (World.block_lt_of_cell? w _ hw104_4)).trans hw104_4), ((HB.out.cell (World.block_lt_of_cell? w _ hw104_5)).trans hw104_5), ((HB.out.cell (World.block_lt_of_cell? w _ hw104_6)).trans hw104_6), ((HB.out.cell (World.block_lt_of_cell? w _ hw104_7)).trans hw104_7), ((HB.out.cell (World.block_lt_of_cell? w _ hw104_8)).trans hw104_8), ((HB.out.cell (World.block_lt_of_cell? w _ hw104_9)).trans hw104_9), ((HB.out.cell (World.block_lt_of_cell? w _ hw104_10)).trans hw104_10), ((HB.out.cell (World.block_lt_of_cell? w _ hw104_11)).trans hw104_11), ((HB.out.cell (World.block_lt_of_cell? w _ hw104_12)).trans hw104_12), ((HB.out.cell (World.block_lt_of_cell? w _ hw104_13)).trans hw104_13)⟩ (fun hHeld => ?_); refine with_tabW impl_TasksOk.tab4 impl_TasksOk.bits4 (fun HT_ HW_ => ?_)
                    generalize w19.drew = w20 at BK102 HB hx104_0 hx104_1 hx104_10 hx104_11 hx104_12 hx104_13 hx104_2 hx104_3 hx104_4 hx104_5 hx104_6 hx104_7 hx104_8 hx104_9 hHeld ⊢
                    refine tQ (i := 0) (N := some 12) #[yy,nn,nn,nn,nn,nn,nn,nn,nn,nn,nn,nn,nn,nn,nn,nn,nn,nn] (take_ofW HT_.out HW_.out (by kernel_rfl)) hHeld ?_
                    refine one_ (i := 1) (N := some 13) #[yy,yy,nn,nn,nn,nn,nn,nn,nn,nn,nn,nn,nn,nn,nn,nn,nn,nn] rfl rfl (one_of HT_.out (by kernel_rfl)) (by decide) (fun K hK => ?_)
                    refine goes_ Try.func15 (by kernel_rfl) rfl #[.agg #[.int .i64 ((rd_T30 l0 x7_1).f0), .int .i64 ((rd_T30 l0 x7_1).f1), .int .i64 ((rd_T30 l0 x7_1).f2), .int .i64 ((rd_T30 l0 x7_1).f3), .bool ((rd_T30 l0 x7_1).f4), .int .i64 ((rd_T30 l0 x7_1).f5), .int .i64 ((rd_T30 l0 x7_1).f6), .int .i64 ((rd_T30 l0 x7_1).f7), .int .i64 ((rd_T30 l0 x7_1).f8), .int .i64 ((rd_T30 l0 x7_1).f9), .int .i64 ((rd_T30 l0 x7_1).f10), .int .i64 ((rd_T30 l0 x7_1).f11), .int .i64 ((rd_T30 l0 x7_1).f12), .int .i64 ((rd_T30 l0 x7_1).f13)]] (by rfl) rfl rfl (by (try simp only [List.map_toArray, List.map_cons, List.map_nil]); first | done | rfl | (simp only [List.length_drop, List.length_take]; rfl)) ?_
                    with_reducible refine (impl_TaskOk.calls ((rd_T30 l0 x7_1).f0) ((rd_T30 l0 x7_1).f1) ((rd_T30 l0 x7_1).f2) ((rd_T30 l0 x7_1).f3) ((rd_T30 l0 x7_1).f4) ((rd_T30 l0 x7_1).f5) ((rd_T30 l0 x7_1).f6) ((rd_T30 l0 x7_1).f7) ((rd_T30 l0 x7_1).f8) ((rd_T30 l0 x7_1).f9) ((rd_T30 l0 x7_1).f10) ((rd_T30 l0 x7_1).f11) ((rd_T30 l0 x7_1).f12) ((rd_T30 l0 x7_1).f13) true _ A5.out).mono ?_
                    rintro e w21 ⟨rfl, hb⟩
                    refine ⟨_, rfl, ?_⟩
                    have n0_ := aM (blk_below (g := gb102) (o := .cells (tk14 ((rd_T30 l0 x7_1).f0) ((rd_T30 l0 x7_1).f1) ((rd_T30 l0 x7_1).f2) ((rd_T30 l0 x7_1).f3) ((rd_T30 l0 x7_1).f4) ((rd_T30 l0 x7_1).f5) ((rd_T30 l0 x7_1).f6) ((rd_T30 l0 x7_1).f7) ((rd_T30 l0 x7_1).f8) ((rd_T30 l0 x7_1).f9) ((rd_T30 l0 x7_1).f10) ((rd_T30 l0 x7_1).f11) ((rd_T30 l0 x7_1).f12) ((rd_T30 l0 x7_1).f13)) 30 (0, 0)) (kq BK102) hb)
                    have n1_ := aM (below_step (bq HB) hb)
                    clear BK102 HB
                    have BK102 := n0_
                    have HB := n1_
                    clear n0_ n1_
                    (try clear hb)
                    (try clear hb2)
                    (try clear hk)
                    (try clear hi)
                    refine hK.out _ _ ⟨(blk_cell BK102.out 0).trans rfl, (blk_cell BK102.out 1).trans rfl, (blk_cell BK102.out 2).trans rfl, (blk_cell BK102.out 3).trans rfl, (blk_cell BK102.out 4).trans rfl, (blk_cell BK102.out 5).trans rfl, (blk_cell BK102.out 6).trans rfl, (blk_cell BK102.out 7).trans rfl, (blk_cell BK102.out 8).trans rfl, (blk_cell BK102.out 9).trans rfl, (blk_cell BK102.out 10).trans rfl, (blk_cell BK102.out 11).trans rfl, (blk_cell BK102.out 12).trans rfl, (blk_cell BK102.out 13).trans rfl, ((HB.out.cell (World.block_lt_of_cell? w _ hw104_0)).trans hw104_0), ((HB.out.cell (World.block_lt_of_cell? w _ hw104_1)).trans hw104_1), ((HB.out.cell (World.block_lt_of_cell? w _ hw104_2)).trans hw104_2), ((HB.out.cell (World.block_lt_of_cell? w _ hw104_3)).trans hw104_3), ((HB.out.cell (World.block_lt_of_cell? w _ hw104_4)).trans hw104_4), ((HB.out.cell (World.block_lt_of_cell? w _ hw104_5)).trans hw104_5), ((HB.out.cell (World.block_lt_of_cell? w _ hw104_6)).trans hw104_6), ((HB.out.cell (World.block_lt_of_cell? w _ hw104_7)).trans hw104_7), ((HB.out.cell (World.block_lt_of_cell? w _ hw104_8)).trans hw104_8), ((HB.out.cell (World.block_lt_of_cell? w _ hw104_9)).trans hw104_9), ((HB.out.cell (World.block_lt_of_cell? w _ hw104_10)).trans hw104_10), ((HB.out.cell (World.block_lt_of_cell? w _ hw104_11)).trans hw104_11), ((HB.out.cell (World.block_lt_of_cell? w _ hw104_12)).trans hw104_12), ((HB.out.cell (World.block_lt_of_cell? w _ hw104_13)).trans hw104_13)⟩ (fun hHeld => ?_)
                    clear hK K
                    refine nQ (N := some 13) ?_
                    refine pQ (i := 2) (N := some 14) #[yy,yy,yy,nn,nn,nn,nn,nn,nn,nn,nn,nn,nn,nn,nn,nn,nn,nn] (any_of HT_.out (by kernel_rfl)) ?_
                    refine pQ (i := 3) (N := some 15) #[yy,yy,yy,yy,nn,nn,nn,nn,nn,nn,nn,nn,nn,nn,nn,nn,nn,nn] (any_of HT_.out (by kernel_rfl)) ?_
                    refine pQ (i := 4) (N := some 16) #[yy,yy,yy,yy,yy,nn,nn,nn,nn,nn,nn,nn,nn,nn,nn,nn,nn,nn] (any_of HT_.out (by kernel_rfl)) ?_
                    refine pQ (i := 5) (N := some 17) #[yy,yy,yy,yy,yy,yy,nn,nn,nn,nn,nn,nn,nn,nn,nn,nn,nn,nn] (any_of HT_.out (by kernel_rfl)) ?_
                    refine pQ (i := 6) (N := some 18) #[yy,yy,yy,yy,yy,yy,yy,nn,nn,nn,nn,nn,nn,nn,nn,nn,nn,nn] (any_of HT_.out (by kernel_rfl)) ?_
                    refine pQ (i := 7) (N := some 19) #[yy,yy,yy,yy,yy,yy,yy,yy,nn,nn,nn,nn,nn,nn,nn,nn,nn,nn] (any_of HT_.out (by kernel_rfl)) ?_
                    refine pQ (i := 8) (N := some 20) #[yy,yy,yy,yy,yy,yy,yy,yy,yy,nn,nn,nn,nn,nn,nn,nn,nn,nn] (any_of HT_.out (by kernel_rfl)) ?_
                    refine pQ (i := 9) (N := some 21) #[yy,yy,yy,yy,yy,yy,yy,yy,yy,yy,nn,nn,nn,nn,nn,nn,nn,nn] (any_of HT_.out (by kernel_rfl)) ?_
                    refine pQ (i := 10) (N := some 22) #[yy,yy,yy,yy,yy,yy,yy,yy,yy,yy,yy,nn,nn,nn,nn,nn,nn,nn] (any_of HT_.out (by kernel_rfl)) ?_
                    refine pQ (i := 11) (N := some 23) #[yy,yy,yy,yy,yy,yy,yy,yy,yy,yy,yy,yy,nn,nn,nn,nn,nn,nn] (any_of HT_.out (by kernel_rfl)) ?_
                    refine pQ (i := 13) (N := some 25) #[yy,yy,yy,yy,yy,yy,yy,yy,yy,yy,yy,yy,nn,yy,nn,nn,nn,nn] (any_of HT_.out (by kernel_rfl)) ?_
                    refine tQ (i := 12) (N := some 24) #[yy,yy,yy,yy,yy,yy,yy,yy,yy,yy,yy,yy,yy,yy,nn,nn,nn,nn] (take_ofW HT_.out HW_.out (by kernel_rfl)) hHeld ?_
                    refine tQ (i := 14) (N := some 26) #[yy,yy,yy,yy,yy,yy,yy,yy,yy,yy,yy,yy,yy,yy,yy,nn,nn,nn] (take_ofW HT_.out HW_.out (by kernel_rfl)) hHeld ?_
                    refine pQ (i := 15) (N := some 27) #[yy,yy,yy,yy,yy,yy,yy,yy,yy,yy,yy,yy,yy,yy,yy,yy,nn,nn] (any_of HT_.out (by kernel_rfl)) ?_
                    refine pQ (i := 16) (N := some 28) #[yy,yy,yy,yy,yy,yy,yy,yy,yy,yy,yy,yy,yy,yy,yy,yy,yy,nn] (any_of HT_.out (by kernel_rfl)) ?_
                    refine pQ (i := 17) (N := some 29) #[yy,yy,yy,yy,yy,yy,yy,yy,yy,yy,yy,yy,yy,yy,yy,yy,yy,yy] (any_of HT_.out (by kernel_rfl)) ?_
                    refine done_ (done_of HT_.out (by kernel_rfl)) ?_
                    try go_wp2
                    go_roundg k1
                    case measure => have := HK1.out; omega
                    case rel => exact ⟨(wrap64 (x7_1 + 1)), (by first | rfl | (simp; done) | (simp [*]; done)), H', ⟨by have := HK1.out; omega⟩, ⟨bq HB⟩⟩
                  rw [if_neg c10] at H
                  exact absurd H (by simp)
                rw [if_neg c9] at H
                exact absurd H (by simp)
              rw [if_neg c7] at H
              have c7b0 : decide (0 < x7_1) = false := decide_eq_false c7
              clear c7
              have H' := Aside0.mk H
              clear H
              have p101 : 0 ≤ (x7_1 : Int) := of_decide_eq_true (by first | (with_reducible assumption) | assumption)
              have q101 : x7_1 < (l0.length : Int) := of_decide_eq_true (by first | (with_reducible assumption) | assumption)
              obtain ⟨ad101, e101, hx101_0, hx101_1, hx101_2, hx101_3, hx101_4, hx101_5, hx101_6, hx101_7, hx101_8, hx101_9, hx101_10, hx101_11, hx101_12, hx101_13⟩ := at_T30 HR0.out x7_1 p101 q101
              cases e101
              have hmv_ := mv14 HB.out hx101_0 hx101_1 hx101_2 hx101_3 hx101_4 hx101_5 hx101_6 hx101_7 hx101_8 hx101_9 hx101_10 hx101_11 hx101_12 hx101_13
              clear hx101_0 hx101_1 hx101_2 hx101_3 hx101_4 hx101_5 hx101_6 hx101_7 hx101_8 hx101_9 hx101_10 hx101_11 hx101_12 hx101_13
              obtain ⟨hx101_0, hx101_1, hx101_2, hx101_3, hx101_4, hx101_5, hx101_6, hx101_7, hx101_8, hx101_9, hx101_10, hx101_11, hx101_12, hx101_13⟩ := hmv_
              replace p101 := eq_true p101
              replace q101 := eq_true q101
              try go_wp2_with (first | ((with_reducible refine gate_dst (N := 4) rfl ?_); refine box_event ?hg (N := 4) ?hd (cs := tk14 0 0 0 0 false 0 0 0 0 0 0 0 0 0) (t := 30) ?hr ?_; (case hd => rfl); (case hg => rfl); (case hr => first | (go_simp; done) | (go_simp; rfl)); intro gb102 hg w22 hbox hb; have n0_ := aM (below_step (bq HB) hb); have n1_ := aM (hbox); have n2_ := aM ((by rw [hg]; exact (below_size (bq HB)) : w.heap.size ≤ gb102)); have n3_ := n2_; clear HB; have HB := n0_; have BK102 := n1_; have GW102 := n2_; have GE102 := n3_; clear n0_ n1_ n2_ n3_; clear hb hbox hg; obtain ⟨_,_,_,_,_,_,_,_,_,_,_,_,_,_⟩ := cz14 BK102.out; have hfz23_0 := blk_frozen BK102.out))
              have n0_ : Aside0 (((((((((((((((w22.setCell ⟨gb102, 0, none⟩ (.int .i64 ((rd_T30 l0 x7_1).f0))).setCell ⟨gb102, 1, none⟩ (.int .i64 ((rd_T30 l0 x7_1).f1))).setCell ⟨gb102, 2, none⟩ (.int .i64 ((rd_T30 l0 x7_1).f2))).setCell ⟨gb102, 3, none⟩ (.int .i64 ((rd_T30 l0 x7_1).f3))).setCell ⟨gb102, 4, none⟩ (.bool ((rd_T30 l0 x7_1).f4))).setCell ⟨gb102, 5, none⟩ (.int .i64 ((rd_T30 l0 x7_1).f5))).setCell ⟨gb102, 6, none⟩ (.int .i64 ((rd_T30 l0 x7_1).f6))).setCell ⟨gb102, 7, none⟩ (.int .i64 ((rd_T30 l0 x7_1).f7))).setCell ⟨gb102, 8, none⟩ (.int .i64 ((rd_T30 l0 x7_1).f8))).setCell ⟨gb102, 9, none⟩ (.int .i64 ((rd_T30 l0 x7_1).f9))).setCell ⟨gb102, 10, none⟩ (.int .i64 ((rd_T30 l0 x7_1).f10))).setCell ⟨gb102, 11, none⟩ (.int .i64 ((rd_T30 l0 x7_1).f11))).setCell ⟨gb102, 12, none⟩ (.int .i64 ((rd_T30 l0 x7_1).f12))).setCell ⟨gb102, 13, none⟩ (.int .i64 ((rd_T30 l0 x7_1).f13))).heap[gb102]? = some (.cells #[.int .i64 ((rd_T30 l0 x7_1).f0), .int .i64 ((rd_T30 l0 x7_1).f1), .int .i64 ((rd_T30 l0 x7_1).f2), .int .i64 ((rd_T30 l0 x7_1).f3), .bool ((rd_T30 l0 x7_1).f4), .int .i64 ((rd_T30 l0 x7_1).f5), .int .i64 ((rd_T30 l0 x7_1).f6), .int .i64 ((rd_T30 l0 x7_1).f7), .int .i64 ((rd_T30 l0 x7_1).f8), .int .i64 ((rd_T30 l0 x7_1).f9), .int .i64 ((rd_T30 l0 x7_1).f10), .int .i64 ((rd_T30 l0 x7_1).f11), .int .i64 ((rd_T30 l0 x7_1).f12), .int .i64 ((rd_T30 l0 x7_1).f13)] 30 (0, 0))) := ⟨by refine put14 (cs := tk14 0 0 0 0 false 0 0 0 0 0 0 0 0 0) ?_; (with_reducible repeat (first | apply bkD | apply bkd | apply bkA)); exact BK102.out⟩
              have n1_ : Aside0 (Below w.heap.size w ((((((((((((((w22.setCell ⟨gb102, 0, none⟩ (.int .i64 ((rd_T30 l0 x7_1).f0))).setCell ⟨gb102, 1, none⟩ (.int .i64 ((rd_T30 l0 x7_1).f1))).setCell ⟨gb102, 2, none⟩ (.int .i64 ((rd_T30 l0 x7_1).f2))).setCell ⟨gb102, 3, none⟩ (.int .i64 ((rd_T30 l0 x7_1).f3))).setCell ⟨gb102, 4, none⟩ (.bool ((rd_T30 l0 x7_1).f4))).setCell ⟨gb102, 5, none⟩ (.int .i64 ((rd_T30 l0 x7_1).f5))).setCell ⟨gb102, 6, none⟩ (.int .i64 ((rd_T30 l0 x7_1).f6))).setCell ⟨gb102, 7, none⟩ (.int .i64 ((rd_T30 l0 x7_1).f7))).setCell ⟨gb102, 8, none⟩ (.int .i64 ((rd_T30 l0 x7_1).f8))).setCell ⟨gb102, 9, none⟩ (.int .i64 ((rd_T30 l0 x7_1).f9))).setCell ⟨gb102, 10, none⟩ (.int .i64 ((rd_T30 l0 x7_1).f10))).setCell ⟨gb102, 11, none⟩ (.int .i64 ((rd_T30 l0 x7_1).f11))).setCell ⟨gb102, 12, none⟩ (.int .i64 ((rd_T30 l0 x7_1).f12))).setCell ⟨gb102, 13, none⟩ (.int .i64 ((rd_T30 l0 x7_1).f13)))) := ⟨bq HB⟩
              (try clear BK102)
              (try clear HB)
              generalize ((((((((((((((w22.setCell ⟨gb102, 0, none⟩ (.int .i64 ((rd_T30 l0 x7_1).f0))).setCell ⟨gb102, 1, none⟩ (.int .i64 ((rd_T30 l0 x7_1).f1))).setCell ⟨gb102, 2, none⟩ (.int .i64 ((rd_T30 l0 x7_1).f2))).setCell ⟨gb102, 3, none⟩ (.int .i64 ((rd_T30 l0 x7_1).f3))).setCell ⟨gb102, 4, none⟩ (.bool ((rd_T30 l0 x7_1).f4))).setCell ⟨gb102, 5, none⟩ (.int .i64 ((rd_T30 l0 x7_1).f5))).setCell ⟨gb102, 6, none⟩ (.int .i64 ((rd_T30 l0 x7_1).f6))).setCell ⟨gb102, 7, none⟩ (.int .i64 ((rd_T30 l0 x7_1).f7))).setCell ⟨gb102, 8, none⟩ (.int .i64 ((rd_T30 l0 x7_1).f8))).setCell ⟨gb102, 9, none⟩ (.int .i64 ((rd_T30 l0 x7_1).f9))).setCell ⟨gb102, 10, none⟩ (.int .i64 ((rd_T30 l0 x7_1).f10))).setCell ⟨gb102, 11, none⟩ (.int .i64 ((rd_T30 l0 x7_1).f11))).setCell ⟨gb102, 12, none⟩ (.int .i64 ((rd_T30 l0 x7_1).f12))).setCell ⟨gb102, 13, none⟩ (.int .i64 ((rd_T30 l0 x7_1).f13))) = w24 at n0_ n1_ ⊢
              have BK102 := n0_
              have HB := n1_
              clear n0_ n1_
              have n0_ := aM (blk_drew BK102.out)
              have n1_ := aM (below_drew1 HB.out)
              clear BK102 HB
              have BK102 := n0_
              have HB := n1_
              clear n0_ n1_
              refine start_ (n := 18) (S := fun w' => cb14 w' gb102 (.int .i64 ((rd_T30 l0 x7_1).f0)) (.int .i64 ((rd_T30 l0 x7_1).f1)) (.int .i64 ((rd_T30 l0 x7_1).f2)) (.int .i64 ((rd_T30 l0 x7_1).f3)) (.bool ((rd_T30 l0 x7_1).f4)) (.int .i64 ((rd_T30 l0 x7_1).f5)) (.int .i64 ((rd_T30 l0 x7_1).f6)) (.int .i64 ((rd_T30 l0 x7_1).f7)) (.int .i64 ((rd_T30 l0 x7_1).f8)) (.int .i64 ((rd_T30 l0 x7_1).f9)) (.int .i64 ((rd_T30 l0 x7_1).f10)) (.int .i64 ((rd_T30 l0 x7_1).f11)) (.int .i64 ((rd_T30 l0 x7_1).f12)) (.int .i64 ((rd_T30 l0 x7_1).f13))) (ds := []) #[nn,nn,nn,nn,nn,nn,nn,nn,nn,nn,nn,nn,nn,nn,nn,nn,nn,nn] (by kernel_rfl) rfl rfl ⟨(blk_cell BK102.out 0).trans rfl, (blk_cell BK102.out 1).trans rfl, (blk_cell BK102.out 2).trans rfl, (blk_cell BK102.out 3).trans rfl, (blk_cell BK102.out 4).trans rfl, (blk_cell BK102.out 5).trans rfl, (blk_cell BK102.out 6).trans rfl, (blk_cell BK102.out 7).trans rfl, (blk_cell BK102.out 8).trans rfl, (blk_cell BK102.out 9).trans rfl, (blk_cell BK102.out 10).trans rfl, (blk_cell BK102.out 11).trans rfl, (blk_cell BK102.out 12).trans rfl, (blk_cell BK102.out 13).trans rfl⟩ (fun hHeld => ?_); refine with_tabW impl_TasksOk.tab4 impl_TasksOk.bits4 (fun HT_ HW_ => ?_)
              generalize w24.drew = w25 at BK102 HB hHeld ⊢
              refine tQ (i := 0) (N := some 12) #[yy,nn,nn,nn,nn,nn,nn,nn,nn,nn,nn,nn,nn,nn,nn,nn,nn,nn] (take_ofW HT_.out HW_.out (by kernel_rfl)) hHeld ?_
              refine one_ (i := 1) (N := some 13) #[yy,yy,nn,nn,nn,nn,nn,nn,nn,nn,nn,nn,nn,nn,nn,nn,nn,nn] rfl rfl (one_of HT_.out (by kernel_rfl)) (by decide) (fun K hK => ?_)
              refine goes_ Try.func15 (by kernel_rfl) rfl #[.agg #[.int .i64 ((rd_T30 l0 x7_1).f0), .int .i64 ((rd_T30 l0 x7_1).f1), .int .i64 ((rd_T30 l0 x7_1).f2), .int .i64 ((rd_T30 l0 x7_1).f3), .bool ((rd_T30 l0 x7_1).f4), .int .i64 ((rd_T30 l0 x7_1).f5), .int .i64 ((rd_T30 l0 x7_1).f6), .int .i64 ((rd_T30 l0 x7_1).f7), .int .i64 ((rd_T30 l0 x7_1).f8), .int .i64 ((rd_T30 l0 x7_1).f9), .int .i64 ((rd_T30 l0 x7_1).f10), .int .i64 ((rd_T30 l0 x7_1).f11), .int .i64 ((rd_T30 l0 x7_1).f12), .int .i64 ((rd_T30 l0 x7_1).f13)]] (by rfl) rfl rfl (by (try simp only [List.map_toArray, List.map_cons, List.map_nil]); first | done | rfl | (simp only [List.length_drop, List.length_take]; rfl)) ?_
              with_reducible refine (impl_TaskOk.calls ((rd_T30 l0 x7_1).f0) ((rd_T30 l0 x7_1).f1) ((rd_T30 l0 x7_1).f2) ((rd_T30 l0 x7_1).f3) ((rd_T30 l0 x7_1).f4) ((rd_T30 l0 x7_1).f5) ((rd_T30 l0 x7_1).f6) ((rd_T30 l0 x7_1).f7) ((rd_T30 l0 x7_1).f8) ((rd_T30 l0 x7_1).f9) ((rd_T30 l0 x7_1).f10) ((rd_T30 l0 x7_1).f11) ((rd_T30 l0 x7_1).f12) ((rd_T30 l0 x7_1).f13) true _ A5.out).mono ?_
              rintro e w26 ⟨rfl, hb⟩
              refine ⟨_, rfl, ?_⟩
              have n0_ := aM (blk_below (g := gb102) (o := .cells (tk14 ((rd_T30 l0 x7_1).f0) ((rd_T30 l0 x7_1).f1) ((rd_T30 l0 x7_1).f2) ((rd_T30 l0 x7_1).f3) ((rd_T30 l0 x7_1).f4) ((rd_T30 l0 x7_1).f5) ((rd_T30 l0 x7_1).f6) ((rd_T30 l0 x7_1).f7) ((rd_T30 l0 x7_1).f8) ((rd_T30 l0 x7_1).f9) ((rd_T30 l0 x7_1).f10) ((rd_T30 l0 x7_1).f11) ((rd_T30 l0 x7_1).f12) ((rd_T30 l0 x7_1).f13)) 30 (0, 0)) (kq BK102) hb)
              have n1_ := aM (below_step (bq HB) hb)
              clear BK102 HB
              have BK102 := n0_
              have HB := n1_
              clear n0_ n1_
              (try clear hb)
              (try clear hb2)
              (try clear hk)
              (try clear hi)
              refine hK.out _ _ ⟨(blk_cell BK102.out 0).trans rfl, (blk_cell BK102.out 1).trans rfl, (blk_cell BK102.out 2).trans rfl, (blk_cell BK102.out 3).trans rfl, (blk_cell BK102.out 4).trans rfl, (blk_cell BK102.out 5).trans rfl, (blk_cell BK102.out 6).trans rfl, (blk_cell BK102.out 7).trans rfl, (blk_cell BK102.out 8).trans rfl, (blk_cell BK102.out 9).trans rfl, (blk_cell BK102.out 10).trans rfl, (blk_cell BK102.out 11).trans rfl, (blk_cell BK102.out 12).trans rfl, (blk_cell BK102.out 13).trans rfl⟩ (fun hHeld => ?_)
              clear hK K
              refine nQ (N := some 13) ?_
              refine pQ (i := 2) (N := some 14) #[yy,yy,yy,nn,nn,nn,nn,nn,nn,nn,nn,nn,nn,nn,nn,nn,nn,nn] (any_of HT_.out (by kernel_rfl)) ?_
              refine pQ (i := 3) (N := some 15) #[yy,yy,yy,yy,nn,nn,nn,nn,nn,nn,nn,nn,nn,nn,nn,nn,nn,nn] (any_of HT_.out (by kernel_rfl)) ?_
              refine pQ (i := 4) (N := some 16) #[yy,yy,yy,yy,yy,nn,nn,nn,nn,nn,nn,nn,nn,nn,nn,nn,nn,nn] (any_of HT_.out (by kernel_rfl)) ?_
              refine pQ (i := 5) (N := some 17) #[yy,yy,yy,yy,yy,yy,nn,nn,nn,nn,nn,nn,nn,nn,nn,nn,nn,nn] (any_of HT_.out (by kernel_rfl)) ?_
              refine pQ (i := 6) (N := some 18) #[yy,yy,yy,yy,yy,yy,yy,nn,nn,nn,nn,nn,nn,nn,nn,nn,nn,nn] (any_of HT_.out (by kernel_rfl)) ?_
              refine pure_ (i := 7) (N := some 19) (v := undef) (a' := ?_) #[yy,yy,yy,yy,yy,yy,yy,yy,nn,nn,nn,nn,nn,nn,nn,nn,nn,nn] rfl rfl (any_of HT_.out (by kernel_rfl)) (fun _ _ _ h => h) (Or.inr ⟨by rfl, rfl⟩) ?_ ?_
              rotate_left
              · simp only [Act.put, tA, tB, tC, i64_w, i32_w]
                rfl
              refine pure_ (i := 8) (N := some 20) (v := undef) (a' := ?_) #[yy,yy,yy,yy,yy,yy,yy,yy,yy,nn,nn,nn,nn,nn,nn,nn,nn,nn] rfl rfl (any_of HT_.out (by kernel_rfl)) (fun _ _ _ h => h) (Or.inr ⟨by rfl, rfl⟩) ?_ ?_
              rotate_left
              · simp only [Act.put, tA, tB, tC, i64_w, i32_w]
                rfl
              refine pure_ (i := 9) (N := some 21) (v := undef) (a' := ?_) #[yy,yy,yy,yy,yy,yy,yy,yy,yy,yy,nn,nn,nn,nn,nn,nn,nn,nn] rfl rfl (any_of HT_.out (by kernel_rfl)) (fun _ _ _ h => h) (Or.inr ⟨by rfl, rfl⟩) ?_ ?_
              rotate_left
              · simp only [Act.put, tA, tB, tC, i64_w, i32_w]
                rfl
              refine pure_ (i := 10) (N := some 22) (v := undef) (a' := ?_) #[yy,yy,yy,yy,yy,yy,yy,yy,yy,yy,yy,nn,nn,nn,nn,nn,nn,nn] rfl rfl (any_of HT_.out (by kernel_rfl)) (fun _ _ _ h => h) (Or.inr ⟨by rfl, rfl⟩) ?_ ?_
              rotate_left
              · simp only [Act.put, tA, tB, tC, i64_w, i32_w]
                rfl
              refine pure_ (i := 11) (N := some 23) (v := undef) (a' := ?_) #[yy,yy,yy,yy,yy,yy,yy,yy,yy,yy,yy,yy,nn,nn,nn,nn,nn,nn] rfl rfl (any_of HT_.out (by kernel_rfl)) (fun _ _ _ h => h) (Or.inr ⟨by rfl, rfl⟩) ?_ ?_
              rotate_left
              · simp only [Act.put, tA, tB, tC, i64_w, i32_w]
                rfl
              refine pure_ (i := 12) (N := some 24) (v := undef) (a' := ?_) #[yy,yy,yy,yy,yy,yy,yy,yy,yy,yy,yy,yy,yy,nn,nn,nn,nn,nn] rfl rfl (any_of HT_.out (by kernel_rfl)) (fun _ _ _ h => h) (Or.inr ⟨by rfl, rfl⟩) ?_ ?_
              rotate_left
              · simp only [Act.put, tA, tB, tC, i64_w, i32_w]
                rfl
              refine pure_ (i := 13) (N := some 25) (v := undef) (a' := ?_) #[yy,yy,yy,yy,yy,yy,yy,yy,yy,yy,yy,yy,yy,yy,nn,nn,nn,nn] rfl rfl (any_of HT_.out (by kernel_rfl)) (fun _ _ _ h => h) (Or.inr ⟨by rfl, rfl⟩) ?_ ?_
              rotate_left
              · simp only [Act.put, tA, tB, tC, i64_w, i32_w]
                rfl
              refine pure_ (i := 14) (N := some 26) (v := undef) (a' := ?_) #[yy,yy,yy,yy,yy,yy,yy,yy,yy,yy,yy,yy,yy,yy,yy,nn,nn,nn] rfl rfl (any_of HT_.out (by kernel_rfl)) (fun _ _ _ h => h) (Or.inr ⟨by rfl, rfl⟩) ?_ ?_
              rotate_left
              · simp only [Act.put, tA, tB, tC, i64_w, i32_w]
                rfl
              refine pure_ (i := 15) (N := some 27) (v := undef) (a' := ?_) #[yy,yy,yy,yy,yy,yy,yy,yy,yy,yy,yy,yy,yy,yy,yy,yy,nn,nn] rfl rfl (any_of HT_.out (by kernel_rfl)) (fun _ _ _ h => h) (Or.inr ⟨by rfl, rfl⟩) ?_ ?_
              rotate_left
              · simp only [Act.put, tA, tB, tC, i64_w, i32_w]
                rfl
              refine pQ (i := 16) (N := some 28) #[yy,yy,yy,yy,yy,yy,yy,yy,yy,yy,yy,yy,yy,yy,yy,yy,yy,nn] (any_of HT_.out (by kernel_rfl)) ?_
              refine pQ (i := 17) (N := some 29) #[yy,yy,yy,yy,yy,yy,yy,yy,yy,yy,yy,yy,yy,yy,yy,yy,yy,yy] (any_of HT_.out (by kernel_rfl)) ?_
              refine done_ (done_of HT_.out (by kernel_rfl)) ?_
              try go_wp2
              go_roundg k1
              case measure => have := HK1.out; omega
              case rel => exact ⟨(wrap64 (x7_1 + 1)), (by first | rfl | (simp; done) | (simp [*]; done)), H', ⟨by have := HK1.out; omega⟩, ⟨bq HB⟩⟩
            replace c6 := Bool.eq_false_iff.mpr c6
            subst c6
            have H1 : (some false) = some r := by rw [if_neg (show ¬ (false = true) by decide)] at H; exact H
            clear H
            have H := H1
            clear H1
            obtain rfl := Option.some.inj H
            have p101 : 0 ≤ (x7_1 : Int) := of_decide_eq_true (by first | (with_reducible assumption) | assumption)
            have q101 : x7_1 < (l0.length : Int) := of_decide_eq_true (by first | (with_reducible assumption) | assumption)
            obtain ⟨ad101, e101, hx101_0, hx101_1, hx101_2, hx101_3, hx101_4, hx101_5, hx101_6, hx101_7, hx101_8, hx101_9, hx101_10, hx101_11, hx101_12, hx101_13⟩ := at_T30 HR0.out x7_1 p101 q101
            cases e101
            have hmv_ := mv14 HB.out hx101_0 hx101_1 hx101_2 hx101_3 hx101_4 hx101_5 hx101_6 hx101_7 hx101_8 hx101_9 hx101_10 hx101_11 hx101_12 hx101_13
            clear hx101_0 hx101_1 hx101_2 hx101_3 hx101_4 hx101_5 hx101_6 hx101_7 hx101_8 hx101_9 hx101_10 hx101_11 hx101_12 hx101_13
            obtain ⟨hx101_0, hx101_1, hx101_2, hx101_3, hx101_4, hx101_5, hx101_6, hx101_7, hx101_8, hx101_9, hx101_10, hx101_11, hx101_12, hx101_13⟩ := hmv_
            replace p101 := eq_true p101
            replace q101 := eq_true q101
            try go_wp2_with (first | ((with_reducible refine gate_dst (N := 4) rfl ?_); refine box_event ?hg (N := 4) ?hd (cs := tk14 0 0 0 0 false 0 0 0 0 0 0 0 0 0) (t := 30) ?hr ?_; (case hd => rfl); (case hg => rfl); (case hr => first | (go_simp; done) | (go_simp; rfl)); intro gb102 hg w27 hbox hb; have n0_ := aM (below_step (bq HB) hb); have n1_ := aM (hbox); have n2_ := aM ((by rw [hg]; exact (below_size (bq HB)) : w.heap.size ≤ gb102)); have n3_ := n2_; clear HB; have HB := n0_; have BK102 := n1_; have GW102 := n2_; have GE102 := n3_; clear n0_ n1_ n2_ n3_; clear hb hbox hg; obtain ⟨_,_,_,_,_,_,_,_,_,_,_,_,_,_⟩ := cz14 BK102.out; have hfz28_0 := blk_frozen BK102.out))
            have n0_ : Aside0 (((((((((((((((w27.setCell ⟨gb102, 0, none⟩ (.int .i64 ((rd_T30 l0 x7_1).f0))).setCell ⟨gb102, 1, none⟩ (.int .i64 ((rd_T30 l0 x7_1).f1))).setCell ⟨gb102, 2, none⟩ (.int .i64 ((rd_T30 l0 x7_1).f2))).setCell ⟨gb102, 3, none⟩ (.int .i64 ((rd_T30 l0 x7_1).f3))).setCell ⟨gb102, 4, none⟩ (.bool ((rd_T30 l0 x7_1).f4))).setCell ⟨gb102, 5, none⟩ (.int .i64 ((rd_T30 l0 x7_1).f5))).setCell ⟨gb102, 6, none⟩ (.int .i64 ((rd_T30 l0 x7_1).f6))).setCell ⟨gb102, 7, none⟩ (.int .i64 ((rd_T30 l0 x7_1).f7))).setCell ⟨gb102, 8, none⟩ (.int .i64 ((rd_T30 l0 x7_1).f8))).setCell ⟨gb102, 9, none⟩ (.int .i64 ((rd_T30 l0 x7_1).f9))).setCell ⟨gb102, 10, none⟩ (.int .i64 ((rd_T30 l0 x7_1).f10))).setCell ⟨gb102, 11, none⟩ (.int .i64 ((rd_T30 l0 x7_1).f11))).setCell ⟨gb102, 12, none⟩ (.int .i64 ((rd_T30 l0 x7_1).f12))).setCell ⟨gb102, 13, none⟩ (.int .i64 ((rd_T30 l0 x7_1).f13))).heap[gb102]? = some (.cells #[.int .i64 ((rd_T30 l0 x7_1).f0), .int .i64 ((rd_T30 l0 x7_1).f1), .int .i64 ((rd_T30 l0 x7_1).f2), .int .i64 ((rd_T30 l0 x7_1).f3), .bool ((rd_T30 l0 x7_1).f4), .int .i64 ((rd_T30 l0 x7_1).f5), .int .i64 ((rd_T30 l0 x7_1).f6), .int .i64 ((rd_T30 l0 x7_1).f7), .int .i64 ((rd_T30 l0 x7_1).f8), .int .i64 ((rd_T30 l0 x7_1).f9), .int .i64 ((rd_T30 l0 x7_1).f10), .int .i64 ((rd_T30 l0 x7_1).f11), .int .i64 ((rd_T30 l0 x7_1).f12), .int .i64 ((rd_T30 l0 x7_1).f13)] 30 (0, 0))) := ⟨by refine put14 (cs := tk14 0 0 0 0 false 0 0 0 0 0 0 0 0 0) ?_; (with_reducible repeat (first | apply bkD | apply bkd | apply bkA)); exact BK102.out⟩
            have n1_ : Aside0 (Below w.heap.size w ((((((((((((((w27.setCell ⟨gb102, 0, none⟩ (.int .i64 ((rd_T30 l0 x7_1).f0))).setCell ⟨gb102, 1, none⟩ (.int .i64 ((rd_T30 l0 x7_1).f1))).setCell ⟨gb102, 2, none⟩ (.int .i64 ((rd_T30 l0 x7_1).f2))).setCell ⟨gb102, 3, none⟩ (.int .i64 ((rd_T30 l0 x7_1).f3))).setCell ⟨gb102, 4, none⟩ (.bool ((rd_T30 l0 x7_1).f4))).setCell ⟨gb102, 5, none⟩ (.int .i64 ((rd_T30 l0 x7_1).f5))).setCell ⟨gb102, 6, none⟩ (.int .i64 ((rd_T30 l0 x7_1).f6))).setCell ⟨gb102, 7, none⟩ (.int .i64 ((rd_T30 l0 x7_1).f7))).setCell ⟨gb102, 8, none⟩ (.int .i64 ((rd_T30 l0 x7_1).f8))).setCell ⟨gb102, 9, none⟩ (.int .i64 ((rd_T30 l0 x7_1).f9))).setCell ⟨gb102, 10, none⟩ (.int .i64 ((rd_T30 l0 x7_1).f10))).setCell ⟨gb102, 11, none⟩ (.int .i64 ((rd_T30 l0 x7_1).f11))).setCell ⟨gb102, 12, none⟩ (.int .i64 ((rd_T30 l0 x7_1).f12))).setCell ⟨gb102, 13, none⟩ (.int .i64 ((rd_T30 l0 x7_1).f13)))) := ⟨bq HB⟩
            (try clear BK102)
            (try clear HB)
            generalize ((((((((((((((w27.setCell ⟨gb102, 0, none⟩ (.int .i64 ((rd_T30 l0 x7_1).f0))).setCell ⟨gb102, 1, none⟩ (.int .i64 ((rd_T30 l0 x7_1).f1))).setCell ⟨gb102, 2, none⟩ (.int .i64 ((rd_T30 l0 x7_1).f2))).setCell ⟨gb102, 3, none⟩ (.int .i64 ((rd_T30 l0 x7_1).f3))).setCell ⟨gb102, 4, none⟩ (.bool ((rd_T30 l0 x7_1).f4))).setCell ⟨gb102, 5, none⟩ (.int .i64 ((rd_T30 l0 x7_1).f5))).setCell ⟨gb102, 6, none⟩ (.int .i64 ((rd_T30 l0 x7_1).f6))).setCell ⟨gb102, 7, none⟩ (.int .i64 ((rd_T30 l0 x7_1).f7))).setCell ⟨gb102, 8, none⟩ (.int .i64 ((rd_T30 l0 x7_1).f8))).setCell ⟨gb102, 9, none⟩ (.int .i64 ((rd_T30 l0 x7_1).f9))).setCell ⟨gb102, 10, none⟩ (.int .i64 ((rd_T30 l0 x7_1).f10))).setCell ⟨gb102, 11, none⟩ (.int .i64 ((rd_T30 l0 x7_1).f11))).setCell ⟨gb102, 12, none⟩ (.int .i64 ((rd_T30 l0 x7_1).f12))).setCell ⟨gb102, 13, none⟩ (.int .i64 ((rd_T30 l0 x7_1).f13))) = w29 at n0_ n1_ ⊢
            have BK102 := n0_
            have HB := n1_
            clear n0_ n1_
            have n0_ := aM (blk_drew BK102.out)
            have n1_ := aM (below_drew1 HB.out)
            clear BK102 HB
            have BK102 := n0_
            have HB := n1_
            clear n0_ n1_
            refine start_ (n := 18) (S := fun w' => cb14 w' gb102 (.int .i64 ((rd_T30 l0 x7_1).f0)) (.int .i64 ((rd_T30 l0 x7_1).f1)) (.int .i64 ((rd_T30 l0 x7_1).f2)) (.int .i64 ((rd_T30 l0 x7_1).f3)) (.bool ((rd_T30 l0 x7_1).f4)) (.int .i64 ((rd_T30 l0 x7_1).f5)) (.int .i64 ((rd_T30 l0 x7_1).f6)) (.int .i64 ((rd_T30 l0 x7_1).f7)) (.int .i64 ((rd_T30 l0 x7_1).f8)) (.int .i64 ((rd_T30 l0 x7_1).f9)) (.int .i64 ((rd_T30 l0 x7_1).f10)) (.int .i64 ((rd_T30 l0 x7_1).f11)) (.int .i64 ((rd_T30 l0 x7_1).f12)) (.int .i64 ((rd_T30 l0 x7_1).f13))) (ds := []) #[nn,nn,nn,nn,nn,nn,nn,nn,nn,nn,nn,nn,nn,nn,nn,nn,nn,nn] (by kernel_rfl) rfl rfl ⟨(blk_cell BK102.out 0).trans rfl, (blk_cell BK102.out 1).trans rfl, (blk_cell BK102.out 2).trans rfl, (blk_cell BK102.out 3).trans rfl, (blk_cell BK102.out 4).trans rfl, (blk_cell BK102.out 5).trans rfl, (blk_cell BK102.out 6).trans rfl, (blk_cell BK102.out 7).trans rfl, (blk_cell BK102.out 8).trans rfl, (blk_cell BK102.out 9).trans rfl, (blk_cell BK102.out 10).trans rfl, (blk_cell BK102.out 11).trans rfl, (blk_cell BK102.out 12).trans rfl, (blk_cell BK102.out 13).trans rfl⟩ (fun hHeld => ?_); refine with_tabW impl_TasksOk.tab4 impl_TasksOk.bits4 (fun HT_ HW_ => ?_)
            generalize w29.drew = w30 at BK102 HB hHeld ⊢
            refine tQ (i := 0) (N := some 12) #[yy,nn,nn,nn,nn,nn,nn,nn,nn,nn,nn,nn,nn,nn,nn,nn,nn,nn] (take_ofW HT_.out HW_.out (by kernel_rfl)) hHeld ?_
            refine one_ (i := 1) (N := some 13) #[yy,yy,nn,nn,nn,nn,nn,nn,nn,nn,nn,nn,nn,nn,nn,nn,nn,nn] rfl rfl (one_of HT_.out (by kernel_rfl)) (by decide) (fun K hK => ?_)
            refine goes_ Try.func15 (by kernel_rfl) rfl #[.agg #[.int .i64 ((rd_T30 l0 x7_1).f0), .int .i64 ((rd_T30 l0 x7_1).f1), .int .i64 ((rd_T30 l0 x7_1).f2), .int .i64 ((rd_T30 l0 x7_1).f3), .bool ((rd_T30 l0 x7_1).f4), .int .i64 ((rd_T30 l0 x7_1).f5), .int .i64 ((rd_T30 l0 x7_1).f6), .int .i64 ((rd_T30 l0 x7_1).f7), .int .i64 ((rd_T30 l0 x7_1).f8), .int .i64 ((rd_T30 l0 x7_1).f9), .int .i64 ((rd_T30 l0 x7_1).f10), .int .i64 ((rd_T30 l0 x7_1).f11), .int .i64 ((rd_T30 l0 x7_1).f12), .int .i64 ((rd_T30 l0 x7_1).f13)]] (by rfl) rfl rfl (by (try simp only [List.map_toArray, List.map_cons, List.map_nil]); first | done | rfl | (simp only [List.length_drop, List.length_take]; rfl)) ?_
            with_reducible refine (impl_TaskOk.calls ((rd_T30 l0 x7_1).f0) ((rd_T30 l0 x7_1).f1) ((rd_T30 l0 x7_1).f2) ((rd_T30 l0 x7_1).f3) ((rd_T30 l0 x7_1).f4) ((rd_T30 l0 x7_1).f5) ((rd_T30 l0 x7_1).f6) ((rd_T30 l0 x7_1).f7) ((rd_T30 l0 x7_1).f8) ((rd_T30 l0 x7_1).f9) ((rd_T30 l0 x7_1).f10) ((rd_T30 l0 x7_1).f11) ((rd_T30 l0 x7_1).f12) ((rd_T30 l0 x7_1).f13) false _ A5.out).mono ?_
            rintro e w31 ⟨rfl, hb⟩
            refine ⟨_, rfl, ?_⟩
            have n0_ := aM (blk_below (g := gb102) (o := .cells (tk14 ((rd_T30 l0 x7_1).f0) ((rd_T30 l0 x7_1).f1) ((rd_T30 l0 x7_1).f2) ((rd_T30 l0 x7_1).f3) ((rd_T30 l0 x7_1).f4) ((rd_T30 l0 x7_1).f5) ((rd_T30 l0 x7_1).f6) ((rd_T30 l0 x7_1).f7) ((rd_T30 l0 x7_1).f8) ((rd_T30 l0 x7_1).f9) ((rd_T30 l0 x7_1).f10) ((rd_T30 l0 x7_1).f11) ((rd_T30 l0 x7_1).f12) ((rd_T30 l0 x7_1).f13)) 30 (0, 0)) (kq BK102) hb)
            have n1_ := aM (below_step (bq HB) hb)
            clear BK102 HB
            have BK102 := n0_
            have HB := n1_
            clear n0_ n1_
            (try clear hb)
            (try clear hb2)
            (try clear hk)
            (try clear hi)
            refine hK.out _ _ ⟨(blk_cell BK102.out 0).trans rfl, (blk_cell BK102.out 1).trans rfl, (blk_cell BK102.out 2).trans rfl, (blk_cell BK102.out 3).trans rfl, (blk_cell BK102.out 4).trans rfl, (blk_cell BK102.out 5).trans rfl, (blk_cell BK102.out 6).trans rfl, (blk_cell BK102.out 7).trans rfl, (blk_cell BK102.out 8).trans rfl, (blk_cell BK102.out 9).trans rfl, (blk_cell BK102.out 10).trans rfl, (blk_cell BK102.out 11).trans rfl, (blk_cell BK102.out 12).trans rfl, (blk_cell BK102.out 13).trans rfl⟩ (fun hHeld => ?_)
            clear hK K
            refine nQ (N := some 13) ?_
            refine pQ (i := 2) (N := some 14) #[yy,yy,yy,nn,nn,nn,nn,nn,nn,nn,nn,nn,nn,nn,nn,nn,nn,nn] (any_of HT_.out (by kernel_rfl)) ?_
            refine pQ (i := 3) (N := some 15) #[yy,yy,yy,yy,nn,nn,nn,nn,nn,nn,nn,nn,nn,nn,nn,nn,nn,nn] (any_of HT_.out (by kernel_rfl)) ?_
            refine pure_ (i := 4) (N := some 16) (v := undef) (a' := ?_) #[yy,yy,yy,yy,yy,nn,nn,nn,nn,nn,nn,nn,nn,nn,nn,nn,nn,nn] rfl rfl (any_of HT_.out (by kernel_rfl)) (fun _ _ _ h => h) (Or.inr ⟨by rfl, rfl⟩) ?_ ?_
            rotate_left
            · simp only [Act.put, tA, tB, tC, i64_w, i32_w]
              rfl
            refine pure_ (i := 5) (N := some 17) (v := undef) (a' := ?_) #[yy,yy,yy,yy,yy,yy,nn,nn,nn,nn,nn,nn,nn,nn,nn,nn,nn,nn] rfl rfl (any_of HT_.out (by kernel_rfl)) (fun _ _ _ h => h) (Or.inr ⟨by rfl, rfl⟩) ?_ ?_
            rotate_left
            · simp only [Act.put, tA, tB, tC, i64_w, i32_w]
              rfl
            refine pure_ (i := 6) (N := some 18) (v := undef) (a' := ?_) #[yy,yy,yy,yy,yy,yy,yy,nn,nn,nn,nn,nn,nn,nn,nn,nn,nn,nn] rfl rfl (any_of HT_.out (by kernel_rfl)) (fun _ _ _ h => h) (Or.inr ⟨by rfl, rfl⟩) ?_ ?_
            rotate_left
            · simp only [Act.put, tA, tB, tC, i64_w, i32_w]
              rfl
            refine pure_ (i := 7) (N := some 19) (v := undef) (a' := ?_) #[yy,yy,yy,yy,yy,yy,yy,yy,nn,nn,nn,nn,nn,nn,nn,nn,nn,nn] rfl rfl (any_of HT_.out (by kernel_rfl)) (fun _ _ _ h => h) (Or.inr ⟨by rfl, rfl⟩) ?_ ?_
            rotate_left
            · simp only [Act.put, tA, tB, tC, i64_w, i32_w]
              rfl
            refine pure_ (i := 8) (N := some 20) (v := undef) (a' := ?_) #[yy,yy,yy,yy,yy,yy,yy,yy,yy,nn,nn,nn,nn,nn,nn,nn,nn,nn] rfl rfl (any_of HT_.out (by kernel_rfl)) (fun _ _ _ h => h) (Or.inr ⟨by rfl, rfl⟩) ?_ ?_
            rotate_left
            · simp only [Act.put, tA, tB, tC, i64_w, i32_w]
              rfl
            refine pure_ (i := 9) (N := some 21) (v := undef) (a' := ?_) #[yy,yy,yy,yy,yy,yy,yy,yy,yy,yy,nn,nn,nn,nn,nn,nn,nn,nn] rfl rfl (any_of HT_.out (by kernel_rfl)) (fun _ _ _ h => h) (Or.inr ⟨by rfl, rfl⟩) ?_ ?_
            rotate_left
            · simp only [Act.put, tA, tB, tC, i64_w, i32_w]
              rfl
            refine pure_ (i := 10) (N := some 22) (v := undef) (a' := ?_) #[yy,yy,yy,yy,yy,yy,yy,yy,yy,yy,yy,nn,nn,nn,nn,nn,nn,nn] rfl rfl (any_of HT_.out (by kernel_rfl)) (fun _ _ _ h => h) (Or.inr ⟨by rfl, rfl⟩) ?_ ?_
            rotate_left
            · simp only [Act.put, tA, tB, tC, i64_w, i32_w]
              rfl
            refine pure_ (i := 11) (N := some 23) (v := undef) (a' := ?_) #[yy,yy,yy,yy,yy,yy,yy,yy,yy,yy,yy,yy,nn,nn,nn,nn,nn,nn] rfl rfl (any_of HT_.out (by kernel_rfl)) (fun _ _ _ h => h) (Or.inr ⟨by rfl, rfl⟩) ?_ ?_
            rotate_left
            · simp only [Act.put, tA, tB, tC, i64_w, i32_w]
              rfl
            refine pure_ (i := 12) (N := some 24) (v := undef) (a' := ?_) #[yy,yy,yy,yy,yy,yy,yy,yy,yy,yy,yy,yy,yy,nn,nn,nn,nn,nn] rfl rfl (any_of HT_.out (by kernel_rfl)) (fun _ _ _ h => h) (Or.inr ⟨by rfl, rfl⟩) ?_ ?_
            rotate_left
            · simp only [Act.put, tA, tB, tC, i64_w, i32_w]
              rfl
            refine pure_ (i := 13) (N := some 25) (v := undef) (a' := ?_) #[yy,yy,yy,yy,yy,yy,yy,yy,yy,yy,yy,yy,yy,yy,nn,nn,nn,nn] rfl rfl (any_of HT_.out (by kernel_rfl)) (fun _ _ _ h => h) (Or.inr ⟨by rfl, rfl⟩) ?_ ?_
            rotate_left
            · simp only [Act.put, tA, tB, tC, i64_w, i32_w]
              rfl
            refine pure_ (i := 14) (N := some 26) (v := undef) (a' := ?_) #[yy,yy,yy,yy,yy,yy,yy,yy,yy,yy,yy,yy,yy,yy,yy,nn,nn,nn] rfl rfl (any_of HT_.out (by kernel_rfl)) (fun _ _ _ h => h) (Or.inr ⟨by rfl, rfl⟩) ?_ ?_
            rotate_left
            · simp only [Act.put, tA, tB, tC, i64_w, i32_w]
              rfl
            refine pure_ (i := 15) (N := some 27) (v := undef) (a' := ?_) #[yy,yy,yy,yy,yy,yy,yy,yy,yy,yy,yy,yy,yy,yy,yy,yy,nn,nn] rfl rfl (any_of HT_.out (by kernel_rfl)) (fun _ _ _ h => h) (Or.inr ⟨by rfl, rfl⟩) ?_ ?_
            rotate_left
            · simp only [Act.put, tA, tB, tC, i64_w, i32_w]
              rfl
            refine pure_ (i := 16) (N := some 28) (v := undef) (a' := ?_) #[yy,yy,yy,yy,yy,yy,yy,yy,yy,yy,yy,yy,yy,yy,yy,yy,yy,nn] rfl rfl (any_of HT_.out (by kernel_rfl)) (fun _ _ _ h => h) (Or.inr ⟨by rfl, rfl⟩) ?_ ?_
            rotate_left
            · simp only [Act.put, tA, tB, tC, i64_w, i32_w]
              rfl
            refine pQ (i := 17) (N := some 29) #[yy,yy,yy,yy,yy,yy,yy,yy,yy,yy,yy,yy,yy,yy,yy,yy,yy,yy] (any_of HT_.out (by kernel_rfl)) ?_
            refine done_ (done_of HT_.out (by kernel_rfl)) ?_
            try go_wp2
            go_ret
            exact ⟨by first | rfl | (simp <;> rfl) | (simp [*] <;> rfl), bq HB⟩
          rw [if_neg c4] at H
          exact absurd H (by simp)
        rw [if_neg c3] at H
        exact absurd H (by simp)
      rw [if_neg c2] at H
      have c2b0 : decide (x7_1 < (l0.length : Int)) = false := decide_eq_false c2
      clear c2
      obtain rfl := Option.some.inj H
      go_wp2
      go_ret
      exact ⟨by first | rfl | (simp <;> rfl) | (simp [*] <;> rfl), bq HB⟩

end Go.Proofs.Ytbihinhckmfplaa.Print
