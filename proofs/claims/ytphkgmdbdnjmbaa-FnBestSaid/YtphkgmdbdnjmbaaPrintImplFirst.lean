/- Go functions as plain Lean functions, and that the Go code answers just as these, wherever they answer. Conditions: those of each theorem. Written by a program of this session (wip/patch.py). -/
import Derived.Test.YtphkgmdbdnjmbaaPrint0
import Derived.Test.YtphkgmdbdnjmbaaPrintImplBefore
namespace Go.Proofs.Ytphkgmdbdnjmbaa.Print
open Go.RowKit Go.Proofs.Ytphkgmdbdnjmbaa.Base Go.Proofs.YtphkgmdbdnjmbaaW.PrintWords Go.Proofs.YtphkgmdbdnjmbaaW.PrintLast Go.Proofs.YtphkgmdbdnjmbaaW.PrintMore
attribute [local go_sem] max2_int min2_int max_two min_two max_three min_three max_four min_four   -- for this text's walks alone
set_option linter.unusedVariables false
set_option linter.unusedSimpArgs false

/-! ### impl_first: function 106 -/
def impl_first.l0 : Nat → List (S27) → Int → Int → Int → Int → Int → Int → Bool → Int → Int → Int → Int → Int → Int → Int → Int → Int → Option (Int)
  | 0, _, _, _, _, _, _, _, _, _, _, _, _, _, _, _, _, _ => none
  | k + 1, x7, x8, x9, x102000, x102001, x102002, x102003, x102004, x102005, x102006, x102007, x102008, x102009, x102010, x102011, x102012, x102013 => if x9 < x8 then (if 0 ≤ x9 then (if x9 < (x7.length : Int) then (if x102000 = 0 then (impl_first.l0 k x7 x8 (wrap64 (x9 + 1)) ((rd_T27 x7 x9).f0) ((rd_T27 x7 x9).f1) ((rd_T27 x7 x9).f2) ((rd_T27 x7 x9).f3) ((rd_T27 x7 x9).f4) ((rd_T27 x7 x9).f5) ((rd_T27 x7 x9).f6) ((rd_T27 x7 x9).f7) ((rd_T27 x7 x9).f8) ((rd_T27 x7 x9).f9) ((rd_T27 x7 x9).f10) ((rd_T27 x7 x9).f11) ((rd_T27 x7 x9).f12) ((rd_T27 x7 x9).f13)) else ((impl_Before.f k ((rd_T27 x7 x9).f0) ((rd_T27 x7 x9).f1) ((rd_T27 x7 x9).f2) ((rd_T27 x7 x9).f3) ((rd_T27 x7 x9).f4) ((rd_T27 x7 x9).f5) ((rd_T27 x7 x9).f6) ((rd_T27 x7 x9).f7) ((rd_T27 x7 x9).f8) ((rd_T27 x7 x9).f9) ((rd_T27 x7 x9).f10) ((rd_T27 x7 x9).f11) ((rd_T27 x7 x9).f12) ((rd_T27 x7 x9).f13) x102000 x102001 x102002 x102003 x102004 x102005 x102006 x102007 x102008 x102009 x102010 x102011 x102012 x102013).bind fun t104 => (if t104 = true then (impl_first.l0 k x7 x8 (wrap64 (x9 + 1)) ((rd_T27 x7 x9).f0) ((rd_T27 x7 x9).f1) ((rd_T27 x7 x9).f2) ((rd_T27 x7 x9).f3) ((rd_T27 x7 x9).f4) ((rd_T27 x7 x9).f5) ((rd_T27 x7 x9).f6) ((rd_T27 x7 x9).f7) ((rd_T27 x7 x9).f8) ((rd_T27 x7 x9).f9) ((rd_T27 x7 x9).f10) ((rd_T27 x7 x9).f11) ((rd_T27 x7 x9).f12) ((rd_T27 x7 x9).f13)) else (impl_first.l0 k x7 x8 (wrap64 (x9 + 1)) x102000 x102001 x102002 x102003 x102004 x102005 x102006 x102007 x102008 x102009 x102010 x102011 x102012 x102013)))) else (none)) else (none)) else (some x102000)
def impl_first.f (k : Nat) (l0 : List (S27)) : Option (Int) := impl_first.l0 k l0 (l0.length : Int) 0 0 0 0 0 false 0 0 0 0 0 0 0 0 0
theorem impl_first.mono_l : ∀ k, (∀ y0 y1 y2 y3 y4 y5 y6 y7 y8 y9 y10 y11 y12 y13 y14 y15 y16, LeO (impl_first.l0 k y0 y1 y2 y3 y4 y5 y6 y7 y8 y9 y10 y11 y12 y13 y14 y15 y16) (impl_first.l0 (k + 1) y0 y1 y2 y3 y4 y5 y6 y7 y8 y9 y10 y11 y12 y13 y14 y15 y16))
  | 0 => fun _ _ _ _ _ _ _ _ _ _ _ _ _ _ _ _ _ r h => by simp [impl_first.l0] at h
  | k + 1 => by
    have ih0 := impl_first.mono_l k
    intro y0 y1 y2 y3 y4 y5 y6 y7 y8 y9 y10 y11 y12 y13 y14 y15 y16
    unfold impl_first.l0
    repeat' first
    | (with_reducible exact ih0 _ _ _ _ _ _ _ _ _ _ _ _ _ _ _ _ _)
    | (with_reducible exact impl_Before.mono _ _ _ _ _ _ _ _ _ _ _ _ _ _ _ _ _ _ _ _ _ _ _ _ _ _ _ _ _)
    | (with_reducible exact LeO.refl _)
    | (with_reducible exact LeO.none _)
    | (with_reducible refine LeO.ite ?_ ?_)
    | (with_reducible refine LeO.bind ?_ (fun _ => ?_))
    | exact ih0 _ _ _ _ _ _ _ _ _ _ _ _ _ _ _ _ _
    | exact impl_Before.mono _ _ _ _ _ _ _ _ _ _ _ _ _ _ _ _ _ _ _ _ _ _ _ _ _ _ _ _ _
    | exact LeO.none _
    | refine LeO.ite ?_ ?_
    | refine LeO.bind ?_ (fun _ => ?_)
theorem impl_first.mono : ∀ a0 k, LeO (impl_first.f k a0) (impl_first.f (k + 1) a0) := by
  intro a0 k
  have ih0 := impl_first.mono_l k
  unfold impl_first.f
  repeat' first
      | (with_reducible exact ih0 _ _ _ _ _ _ _ _ _ _ _ _ _ _ _ _ _)
      | (with_reducible exact impl_Before.mono _ _ _ _ _ _ _ _ _ _ _ _ _ _ _ _ _ _ _ _ _ _ _ _ _ _ _ _ _)
      | (with_reducible exact LeO.refl _)
      | (with_reducible exact LeO.none _)
      | (with_reducible refine LeO.ite ?_ ?_)
      | (with_reducible refine LeO.bind ?_ (fun _ => ?_))
      | exact ih0 _ _ _ _ _ _ _ _ _ _ _ _ _ _ _ _ _
      | exact impl_Before.mono _ _ _ _ _ _ _ _ _ _ _ _ _ _ _ _ _ _ _ _ _ _ _ _ _ _ _ _ _
      | exact LeO.none _
      | refine LeO.ite ?_ ?_
      | refine LeO.bind ?_ (fun _ => ?_)
set_option maxHeartbeats 8000000 in
set_option maxRecDepth 100000 in
theorem impl_first.calls (k : Nat) (A0 : Option Addr) (c0 : Nat) (l0 : List (S27)) (r : Int) (w : World) (hr0 : Kd.C k27 w A0 l0.length l0) (hc0 : l0.length ≤ c0) (h : impl_first.f k l0 = some r) :
    Calls Try.prog 106 #[.slice A0 l0.length c0] w fun e w' => e = .returned (.int .i64 r) ∧ Below w.heap.size w w' := by
  have hu27 := Try.underlying27
  have HR0 := Aside0.mk hr0
  have HC0 := Aside0.mk hc0
  clear hr0 hc0
  have HB := aM (Below.refl w.heap.size w)
  have H : (impl_first.l0 k l0 (l0.length : Int) 0 0 0 0 0 false 0 0 0 0 0 0 0 0 0) = some r := h
  clear h
  have H' := Aside0.mk H
  clear H
  go_enter Try.func106, Try.ntmps106
  go_wp2_with (first | ((with_reducible refine gate_dst (N := 3) rfl ?_); refine box_event ?hg (N := 3) ?hd (cs := tk14 0 0 0 0 false 0 0 0 0 0 0 0 0 0) (t := 27) ?hr ?_; (case hd => rfl); (case hg => rfl); (case hr => first | (go_simp; done) | (go_simp; rfl)); intro gb101 hg w2 hbox hb; have n0_ := aM (below_step (bq HB) hb); have n1_ := aM (hbox); have n2_ := aM ((by rw [hg]; exact (below_size (bq HB)) : w.heap.size ≤ gb101)); have n3_ := n2_; clear HB; have HB := n0_; have BK101 := n1_; have GW101 := n2_; have GE101 := n3_; clear n0_ n1_ n2_ n3_; clear hb hbox hg; obtain ⟨_,_,_,_,_,_,_,_,_,_,_,_,_,_⟩ := cz14 BK101.out; have hfz3_0 := blk_frozen BK101.out))
  go_loopg [9] k (fun kq v9 w' => ∃ (x9_1 : Int) (x102000_1 : Int) (x102001_1 : Int) (x102002_1 : Int) (x102003_1 : Int) (x102004_1 : Bool) (x102005_1 : Int) (x102006_1 : Int) (x102007_1 : Int) (x102008_1 : Int) (x102009_1 : Int) (x102010_1 : Int) (x102011_1 : Int) (x102012_1 : Int) (x102013_1 : Int), v9 = .int .i64 x9_1 ∧ Aside0 (impl_first.l0 kq l0 (l0.length : Int) x9_1 x102000_1 x102001_1 x102002_1 x102003_1 x102004_1 x102005_1 x102006_1 x102007_1 x102008_1 x102009_1 x102010_1 x102011_1 x102012_1 x102013_1 = some r) ∧ Aside0 (kq ≤ k) ∧ Aside0 (w'.heap[gb101]? = some (.cells #[.int .i64 x102000_1, .int .i64 x102001_1, .int .i64 x102002_1, .int .i64 x102003_1, .bool x102004_1, .int .i64 x102005_1, .int .i64 x102006_1, .int .i64 x102007_1, .int .i64 x102008_1, .int .i64 x102009_1, .int .i64 x102010_1, .int .i64 x102011_1, .int .i64 x102012_1, .int .i64 x102013_1] 27 (0, 0))) ∧ Aside0 (Below w.heap.size w w'))
  case atStart => exact ⟨(0), (0), (0), (0), (0), (false), (0), (0), (0), (0), (0), (0), (0), (0), (0), (by first | rfl | (simp; done) | (simp [*]; done)), H', ⟨Nat.le_refl _⟩, ⟨by refine put14 (cs := tk14 0 0 0 0 false 0 0 0 0 0 0 0 0 0) ?_; (with_reducible repeat (first | apply bkD | apply bkd | apply bkA)); exact BK101.out⟩, ⟨bq HB⟩⟩
  case round =>
    clear H'
    try clear c1
    try clear p2
    try clear hfz3_0
    obtain ⟨x9_1, x102000_1, x102001_1, x102002_1, x102003_1, x102004_1, x102005_1, x102006_1, x102007_1, x102008_1, x102009_1, x102010_1, x102011_1, x102012_1, x102013_1, rfl, HA, HK1, BK101, HB⟩ := hrel
    cases gk with
    | zero => exact absurd HA.out (by simp [impl_first.l0])
    | succ k1 =>
      have H := HA.out
      clear HA
      simp only [impl_first.l0] at H
      by_cases c4 : x9_1 < (l0.length : Int)
      · rw [if_pos c4] at H
        have c4b0 : decide (x9_1 < (l0.length : Int)) = true := decide_eq_true c4
        clear c4
        by_cases c5 : 0 ≤ x9_1
        · rw [if_pos c5] at H
          have c5b0 : decide (0 ≤ x9_1) = true := decide_eq_true c5
          clear c5
          by_cases c6 : x9_1 < (l0.length : Int)
          · rw [if_pos c6] at H
            have c6b0 : decide (x9_1 < (l0.length : Int)) = true := decide_eq_true c6
            clear c6
            by_cases c7 : x102000_1 = 0
            · rw [if_pos c7] at H
              have c7b0 : (x102000_1 == 0) = true := beq_iff_eq.mpr c7
              have c7b1 : (x102000_1 != 0) = false := bne_eq_false_iff_eq.mpr c7
              clear c7
              have H' := Aside0.mk H
              clear H
              have p102 : 0 ≤ (x9_1 : Int) := of_decide_eq_true (by first | (with_reducible assumption) | assumption)
              have q102 : x9_1 < (l0.length : Int) := of_decide_eq_true (by first | (with_reducible assumption) | assumption)
              obtain ⟨ad102, e102, hx102_0, hx102_1, hx102_2, hx102_3, hx102_4, hx102_5, hx102_6, hx102_7, hx102_8, hx102_9, hx102_10, hx102_11, hx102_12, hx102_13⟩ := at_T27 HR0.out x9_1 p102 q102
              cases e102
              have hmv_ := mv14 HB.out hx102_0 hx102_1 hx102_2 hx102_3 hx102_4 hx102_5 hx102_6 hx102_7 hx102_8 hx102_9 hx102_10 hx102_11 hx102_12 hx102_13
              clear hx102_0 hx102_1 hx102_2 hx102_3 hx102_4 hx102_5 hx102_6 hx102_7 hx102_8 hx102_9 hx102_10 hx102_11 hx102_12 hx102_13
              obtain ⟨hx102_0, hx102_1, hx102_2, hx102_3, hx102_4, hx102_5, hx102_6, hx102_7, hx102_8, hx102_9, hx102_10, hx102_11, hx102_12, hx102_13⟩ := hmv_
              replace p102 := eq_true p102
              replace q102 := eq_true q102
              go_wp2_with (first | ((with_reducible refine gate_dst (N := 5) rfl ?_); refine box_event ?hg (N := 5) ?hd (cs := tk14 0 0 0 0 false 0 0 0 0 0 0 0 0 0) (t := 27) ?hr ?_; (case hd => rfl); (case hg => rfl); (case hr => first | (go_simp; done) | (go_simp; rfl)); intro gb103 hg w8 hbox hb; have n0_ := aM (blk_below (kq BK101) hb); have n1_ := aM (below_step (bq HB) hb); have n2_ := aM (hbox); have n3_ := aM ((by rw [hg]; exact (below_size (bq HB)) : w.heap.size ≤ gb103)); have n4_ := n3_; have n5_ := aM ((by rw [hg]; exact Nat.ne_of_lt (blk_lt (kq BK101)) : gb101 ≠ gb103)); have n6_ := aM (n5_.out.symm); clear BK101 HB; have BK101 := n0_; have HB := n1_; have BK103 := n2_; have GW103 := n3_; have GE103 := n4_; have NB101_103 := n5_; have NB103_101 := n6_; clear n0_ n1_ n2_ n3_ n4_ n5_ n6_; clear hb hbox hg; have hnb9 := NB103_101.out; have hnc9 := NB101_103.out; obtain ⟨_,_,_,_,_,_,_,_,_,_,_,_,_,_⟩ := cz14 BK103.out; have hfz10_0 := blk_frozen BK103.out; obtain ⟨_,_,_,_,_,_,_,_,_,_,_,_,_,_⟩ := cz14 BK101.out; have hfz11_0 := blk_frozen BK101.out))
              go_roundg k1
              case measure => have := HK1.out; omega
              case rel => exact ⟨(wrap64 (x9_1 + 1)), ((rd_T27 l0 x9_1).f0), ((rd_T27 l0 x9_1).f1), ((rd_T27 l0 x9_1).f2), ((rd_T27 l0 x9_1).f3), ((rd_T27 l0 x9_1).f4), ((rd_T27 l0 x9_1).f5), ((rd_T27 l0 x9_1).f6), ((rd_T27 l0 x9_1).f7), ((rd_T27 l0 x9_1).f8), ((rd_T27 l0 x9_1).f9), ((rd_T27 l0 x9_1).f10), ((rd_T27 l0 x9_1).f11), ((rd_T27 l0 x9_1).f12), ((rd_T27 l0 x9_1).f13), (by first | rfl | (simp; done) | (simp [*]; done)), H', ⟨by have := HK1.out; omega⟩, ⟨by refine put14 (cs := tk14 x102000_1 x102001_1 x102002_1 x102003_1 x102004_1 x102005_1 x102006_1 x102007_1 x102008_1 x102009_1 x102010_1 x102011_1 x102012_1 x102013_1) ?_; refine far14 ?_ NB101_103.out; (with_reducible repeat (first | apply bkD | apply bkd | apply bkA)); exact BK101.out⟩, ⟨bq HB⟩⟩
            rw [if_neg c7] at H
            have c7b0 : (x102000_1 == 0) = false := beq_eq_false_iff_ne.mpr c7
            have c7b1 : (x102000_1 != 0) = true := bne_iff_ne.mpr c7
            replace H := Option.bind_eq_some_iff.mp H
            obtain ⟨t104, A120, H⟩ := H
            replace H : (if t104 = true then (impl_first.l0 k1 l0 (l0.length : Int) (wrap64 (x9_1 + 1)) ((rd_T27 l0 x9_1).f0) ((rd_T27 l0 x9_1).f1) ((rd_T27 l0 x9_1).f2) ((rd_T27 l0 x9_1).f3) ((rd_T27 l0 x9_1).f4) ((rd_T27 l0 x9_1).f5) ((rd_T27 l0 x9_1).f6) ((rd_T27 l0 x9_1).f7) ((rd_T27 l0 x9_1).f8) ((rd_T27 l0 x9_1).f9) ((rd_T27 l0 x9_1).f10) ((rd_T27 l0 x9_1).f11) ((rd_T27 l0 x9_1).f12) ((rd_T27 l0 x9_1).f13)) else (impl_first.l0 k1 l0 (l0.length : Int) (wrap64 (x9_1 + 1)) x102000_1 x102001_1 x102002_1 x102003_1 x102004_1 x102005_1 x102006_1 x102007_1 x102008_1 x102009_1 x102010_1 x102011_1 x102012_1 x102013_1)) = some r := H
            have A12 := Aside0.mk A120
            clear A120
            by_cases c13 : t104 = true
            · subst c13
              have H1 : (impl_first.l0 k1 l0 (l0.length : Int) (wrap64 (x9_1 + 1)) ((rd_T27 l0 x9_1).f0) ((rd_T27 l0 x9_1).f1) ((rd_T27 l0 x9_1).f2) ((rd_T27 l0 x9_1).f3) ((rd_T27 l0 x9_1).f4) ((rd_T27 l0 x9_1).f5) ((rd_T27 l0 x9_1).f6) ((rd_T27 l0 x9_1).f7) ((rd_T27 l0 x9_1).f8) ((rd_T27 l0 x9_1).f9) ((rd_T27 l0 x9_1).f10) ((rd_T27 l0 x9_1).f11) ((rd_T27 l0 x9_1).f12) ((rd_T27 l0 x9_1).f13)) = some r := by rw [if_pos rfl] at H; exact H
              clear H
              have H := H1
              clear H1
              have H' := Aside0.mk H
              clear H
              have p102 : 0 ≤ (x9_1 : Int) := of_decide_eq_true (by first | (with_reducible assumption) | assumption)
              have q102 : x9_1 < (l0.length : Int) := of_decide_eq_true (by first | (with_reducible assumption) | assumption)
              obtain ⟨ad102, e102, hx102_0, hx102_1, hx102_2, hx102_3, hx102_4, hx102_5, hx102_6, hx102_7, hx102_8, hx102_9, hx102_10, hx102_11, hx102_12, hx102_13⟩ := at_T27 HR0.out x9_1 p102 q102
              cases e102
              have hmv_ := mv14 HB.out hx102_0 hx102_1 hx102_2 hx102_3 hx102_4 hx102_5 hx102_6 hx102_7 hx102_8 hx102_9 hx102_10 hx102_11 hx102_12 hx102_13
              clear hx102_0 hx102_1 hx102_2 hx102_3 hx102_4 hx102_5 hx102_6 hx102_7 hx102_8 hx102_9 hx102_10 hx102_11 hx102_12 hx102_13
              obtain ⟨hx102_0, hx102_1, hx102_2, hx102_3, hx102_4, hx102_5, hx102_6, hx102_7, hx102_8, hx102_9, hx102_10, hx102_11, hx102_12, hx102_13⟩ := hmv_
              replace p102 := eq_true p102
              replace q102 := eq_true q102
              go_wp2_with (first | ((with_reducible refine gate_dst (N := 5) rfl ?_); refine box_event ?hg (N := 5) ?hd (cs := tk14 0 0 0 0 false 0 0 0 0 0 0 0 0 0) (t := 27) ?hr ?_; (case hd => rfl); (case hg => rfl); (case hr => first | (go_simp; done) | (go_simp; rfl)); intro gb103 hg w14 hbox hb; have n0_ := aM (blk_below (kq BK101) hb); have n1_ := aM (below_step (bq HB) hb); have n2_ := aM (hbox); have n3_ := aM ((by rw [hg]; exact (below_size (bq HB)) : w.heap.size ≤ gb103)); have n4_ := n3_; have n5_ := aM ((by rw [hg]; exact Nat.ne_of_lt (blk_lt (kq BK101)) : gb101 ≠ gb103)); have n6_ := aM (n5_.out.symm); clear BK101 HB; have BK101 := n0_; have HB := n1_; have BK103 := n2_; have GW103 := n3_; have GE103 := n4_; have NB101_103 := n5_; have NB103_101 := n6_; clear n0_ n1_ n2_ n3_ n4_ n5_ n6_; clear hb hbox hg; have hnb15 := NB103_101.out; have hnc15 := NB101_103.out; obtain ⟨_,_,_,_,_,_,_,_,_,_,_,_,_,_⟩ := cz14 BK103.out; have hfz16_0 := blk_frozen BK103.out; obtain ⟨_,_,_,_,_,_,_,_,_,_,_,_,_,_⟩ := cz14 BK101.out; have hfz17_0 := blk_frozen BK101.out) | (go_at_call 31; (with_reducible refine (impl_Before.calls k1 ((rd_T27 l0 x9_1).f0) ((rd_T27 l0 x9_1).f1) ((rd_T27 l0 x9_1).f2) ((rd_T27 l0 x9_1).f3) ((rd_T27 l0 x9_1).f4) ((rd_T27 l0 x9_1).f5) ((rd_T27 l0 x9_1).f6) ((rd_T27 l0 x9_1).f7) ((rd_T27 l0 x9_1).f8) ((rd_T27 l0 x9_1).f9) ((rd_T27 l0 x9_1).f10) ((rd_T27 l0 x9_1).f11) ((rd_T27 l0 x9_1).f12) ((rd_T27 l0 x9_1).f13) x102000_1 x102001_1 x102002_1 x102003_1 x102004_1 x102005_1 x102006_1 x102007_1 x102008_1 x102009_1 x102010_1 x102011_1 x102012_1 x102013_1 true _ A12.out).mono ?_); rintro e w18 ⟨rfl, hb⟩; have n0_ := aM (blk_below (g := gb101) (o := .cells (tk14 x102000_1 x102001_1 x102002_1 x102003_1 x102004_1 x102005_1 x102006_1 x102007_1 x102008_1 x102009_1 x102010_1 x102011_1 x102012_1 x102013_1) 27 (0, 0)) (by refine far14 ?_ NB101_103.out; (with_reducible repeat (first | apply bkD | apply bkd | apply bkA)); exact BK101.out) hb); have n1_ := aM (blk_below (g := gb103) (o := .cells (tk14 ((rd_T27 l0 x9_1).f0) ((rd_T27 l0 x9_1).f1) ((rd_T27 l0 x9_1).f2) ((rd_T27 l0 x9_1).f3) ((rd_T27 l0 x9_1).f4) ((rd_T27 l0 x9_1).f5) ((rd_T27 l0 x9_1).f6) ((rd_T27 l0 x9_1).f7) ((rd_T27 l0 x9_1).f8) ((rd_T27 l0 x9_1).f9) ((rd_T27 l0 x9_1).f10) ((rd_T27 l0 x9_1).f11) ((rd_T27 l0 x9_1).f12) ((rd_T27 l0 x9_1).f13)) 27 (0, 0)) (by refine put14 (cs := tk14 0 0 0 0 false 0 0 0 0 0 0 0 0 0) ?_; (with_reducible repeat (first | apply bkD | apply bkd | apply bkA)); exact BK103.out) hb); have n2_ := aM (below_step (bq HB) hb); clear BK101 BK103 HB; have BK101 := n0_; have BK103 := n1_; have HB := n2_; clear n0_ n1_ n2_; (try clear hb); (try clear hb2); (try clear hk); (try clear hi); have hcz19_0 : w18.cell? ⟨gb103, 0, none⟩ = some (.int .i64 ((rd_T27 l0 x9_1).f0)) := (blk_cell BK103.out 0).trans rfl; have hcz19_1 : w18.cell? ⟨gb103, 1, none⟩ = some (.int .i64 ((rd_T27 l0 x9_1).f1)) := (blk_cell BK103.out 1).trans rfl; have hcz19_2 : w18.cell? ⟨gb103, 2, none⟩ = some (.int .i64 ((rd_T27 l0 x9_1).f2)) := (blk_cell BK103.out 2).trans rfl; have hcz19_3 : w18.cell? ⟨gb103, 3, none⟩ = some (.int .i64 ((rd_T27 l0 x9_1).f3)) := (blk_cell BK103.out 3).trans rfl; have hcz19_4 : w18.cell? ⟨gb103, 4, none⟩ = some (.bool ((rd_T27 l0 x9_1).f4)) := (blk_cell BK103.out 4).trans rfl; have hcz19_5 : w18.cell? ⟨gb103, 5, none⟩ = some (.int .i64 ((rd_T27 l0 x9_1).f5)) := (blk_cell BK103.out 5).trans rfl; have hcz19_6 : w18.cell? ⟨gb103, 6, none⟩ = some (.int .i64 ((rd_T27 l0 x9_1).f6)) := (blk_cell BK103.out 6).trans rfl; have hcz19_7 : w18.cell? ⟨gb103, 7, none⟩ = some (.int .i64 ((rd_T27 l0 x9_1).f7)) := (blk_cell BK103.out 7).trans rfl; have hcz19_8 : w18.cell? ⟨gb103, 8, none⟩ = some (.int .i64 ((rd_T27 l0 x9_1).f8)) := (blk_cell BK103.out 8).trans rfl; have hcz19_9 : w18.cell? ⟨gb103, 9, none⟩ = some (.int .i64 ((rd_T27 l0 x9_1).f9)) := (blk_cell BK103.out 9).trans rfl; have hcz19_10 : w18.cell? ⟨gb103, 10, none⟩ = some (.int .i64 ((rd_T27 l0 x9_1).f10)) := (blk_cell BK103.out 10).trans rfl; have hcz19_11 : w18.cell? ⟨gb103, 11, none⟩ = some (.int .i64 ((rd_T27 l0 x9_1).f11)) := (blk_cell BK103.out 11).trans rfl; have hcz19_12 : w18.cell? ⟨gb103, 12, none⟩ = some (.int .i64 ((rd_T27 l0 x9_1).f12)) := (blk_cell BK103.out 12).trans rfl; have hcz19_13 : w18.cell? ⟨gb103, 13, none⟩ = some (.int .i64 ((rd_T27 l0 x9_1).f13)) := (blk_cell BK103.out 13).trans rfl; have hfz19_0 := blk_frozen BK103.out; obtain ⟨_,_,_,_,_,_,_,_,_,_,_,_,_,_⟩ := cz14 BK101.out; have hfz20_0 := blk_frozen BK101.out))
              go_roundg k1
              case measure => have := HK1.out; omega
              case rel => exact ⟨(wrap64 (x9_1 + 1)), ((rd_T27 l0 x9_1).f0), ((rd_T27 l0 x9_1).f1), ((rd_T27 l0 x9_1).f2), ((rd_T27 l0 x9_1).f3), ((rd_T27 l0 x9_1).f4), ((rd_T27 l0 x9_1).f5), ((rd_T27 l0 x9_1).f6), ((rd_T27 l0 x9_1).f7), ((rd_T27 l0 x9_1).f8), ((rd_T27 l0 x9_1).f9), ((rd_T27 l0 x9_1).f10), ((rd_T27 l0 x9_1).f11), ((rd_T27 l0 x9_1).f12), ((rd_T27 l0 x9_1).f13), (by first | rfl | (simp; done) | (simp [*]; done)), H', ⟨by have := HK1.out; omega⟩, ⟨by refine put14 (cs := tk14 x102000_1 x102001_1 x102002_1 x102003_1 x102004_1 x102005_1 x102006_1 x102007_1 x102008_1 x102009_1 x102010_1 x102011_1 x102012_1 x102013_1) ?_; (with_reducible repeat (first | apply bkD | apply bkd | apply bkA)); exact BK101.out⟩, ⟨bq HB⟩⟩
            replace c13 := Bool.eq_false_iff.mpr c13
            subst c13
            have H1 : (impl_first.l0 k1 l0 (l0.length : Int) (wrap64 (x9_1 + 1)) x102000_1 x102001_1 x102002_1 x102003_1 x102004_1 x102005_1 x102006_1 x102007_1 x102008_1 x102009_1 x102010_1 x102011_1 x102012_1 x102013_1) = some r := by rw [if_neg (show ¬ (false = true) by decide)] at H; exact H
            clear H
            have H := H1
            clear H1
            have H' := Aside0.mk H
            clear H
            have p102 : 0 ≤ (x9_1 : Int) := of_decide_eq_true (by first | (with_reducible assumption) | assumption)
            have q102 : x9_1 < (l0.length : Int) := of_decide_eq_true (by first | (with_reducible assumption) | assumption)
            obtain ⟨ad102, e102, hx102_0, hx102_1, hx102_2, hx102_3, hx102_4, hx102_5, hx102_6, hx102_7, hx102_8, hx102_9, hx102_10, hx102_11, hx102_12, hx102_13⟩ := at_T27 HR0.out x9_1 p102 q102
            cases e102
            have hmv_ := mv14 HB.out hx102_0 hx102_1 hx102_2 hx102_3 hx102_4 hx102_5 hx102_6 hx102_7 hx102_8 hx102_9 hx102_10 hx102_11 hx102_12 hx102_13
            clear hx102_0 hx102_1 hx102_2 hx102_3 hx102_4 hx102_5 hx102_6 hx102_7 hx102_8 hx102_9 hx102_10 hx102_11 hx102_12 hx102_13
            obtain ⟨hx102_0, hx102_1, hx102_2, hx102_3, hx102_4, hx102_5, hx102_6, hx102_7, hx102_8, hx102_9, hx102_10, hx102_11, hx102_12, hx102_13⟩ := hmv_
            replace p102 := eq_true p102
            replace q102 := eq_true q102
            go_wp2_with (first | ((with_reducible refine gate_dst (N := 5) rfl ?_); refine box_event ?hg (N := 5) ?hd (cs := tk14 0 0 0 0 false 0 0 0 0 0 0 0 0 0) (t := 27) ?hr ?_; (case hd => rfl); (case hg => rfl); (case hr => first | (go_simp; done) | (go_simp; rfl)); intro gb103 hg w21 hbox hb; have n0_ := aM (blk_below (kq BK101) hb); have n1_ := aM (below_step (bq HB) hb); have n2_ := aM (hbox); have n3_ := aM ((by rw [hg]; exact (below_size (bq HB)) : w.heap.size ≤ gb103)); have n4_ := n3_; have n5_ := aM ((by rw [hg]; exact Nat.ne_of_lt (blk_lt (kq BK101)) : gb101 ≠ gb103)); have n6_ := aM (n5_.out.symm); clear BK101 HB; have BK101 := n0_; have HB := n1_; have BK103 := n2_; have GW103 := n3_; have GE103 := n4_; have NB101_103 := n5_; have NB103_101 := n6_; clear n0_ n1_ n2_ n3_ n4_ n5_ n6_; clear hb hbox hg; have hnb22 := NB103_101.out; have hnc22 := NB101_103.out; obtain ⟨_,_,_,_,_,_,_,_,_,_,_,_,_,_⟩ := cz14 BK103.out; have hfz23_0 := blk_frozen BK103.out; obtain ⟨_,_,_,_,_,_,_,_,_,_,_,_,_,_⟩ := cz14 BK101.out; have hfz24_0 := blk_frozen BK101.out) | (go_at_call 31; (with_reducible refine (impl_Before.calls k1 ((rd_T27 l0 x9_1).f0) ((rd_T27 l0 x9_1).f1) ((rd_T27 l0 x9_1).f2) ((rd_T27 l0 x9_1).f3) ((rd_T27 l0 x9_1).f4) ((rd_T27 l0 x9_1).f5) ((rd_T27 l0 x9_1).f6) ((rd_T27 l0 x9_1).f7) ((rd_T27 l0 x9_1).f8) ((rd_T27 l0 x9_1).f9) ((rd_T27 l0 x9_1).f10) ((rd_T27 l0 x9_1).f11) ((rd_T27 l0 x9_1).f12) ((rd_T27 l0 x9_1).f13) x102000_1 x102001_1 x102002_1 x102003_1 x102004_1 x102005_1 x102006_1 x102007_1 x102008_1 x102009_1 x102010_1 x102011_1 x102012_1 x102013_1 false _ A12.out).mono ?_); rintro e w25 ⟨rfl, hb⟩; have n0_ := aM (blk_below (g := gb101) (o := .cells (tk14 x102000_1 x102001_1 x102002_1 x102003_1 x102004_1 x102005_1 x102006_1 x102007_1 x102008_1 x102009_1 x102010_1 x102011_1 x102012_1 x102013_1) 27 (0, 0)) (by refine far14 ?_ NB101_103.out; (with_reducible repeat (first | apply bkD | apply bkd | apply bkA)); exact BK101.out) hb); have n1_ := aM (blk_below (g := gb103) (o := .cells (tk14 ((rd_T27 l0 x9_1).f0) ((rd_T27 l0 x9_1).f1) ((rd_T27 l0 x9_1).f2) ((rd_T27 l0 x9_1).f3) ((rd_T27 l0 x9_1).f4) ((rd_T27 l0 x9_1).f5) ((rd_T27 l0 x9_1).f6) ((rd_T27 l0 x9_1).f7) ((rd_T27 l0 x9_1).f8) ((rd_T27 l0 x9_1).f9) ((rd_T27 l0 x9_1).f10) ((rd_T27 l0 x9_1).f11) ((rd_T27 l0 x9_1).f12) ((rd_T27 l0 x9_1).f13)) 27 (0, 0)) (by refine put14 (cs := tk14 0 0 0 0 false 0 0 0 0 0 0 0 0 0) ?_; (with_reducible repeat (first | apply bkD | apply bkd | apply bkA)); exact BK103.out) hb); have n2_ := aM (below_step (bq HB) hb); clear BK101 BK103 HB; have BK101 := n0_; have BK103 := n1_; have HB := n2_; clear n0_ n1_ n2_; (try clear hb); (try clear hb2); (try clear hk); (try clear hi)))
            go_roundg k1
            case measure => have := HK1.out; omega
            case rel => exact ⟨(wrap64 (x9_1 + 1)), (x102000_1), (x102001_1), (x102002_1), (x102003_1), (x102004_1), (x102005_1), (x102006_1), (x102007_1), (x102008_1), (x102009_1), (x102010_1), (x102011_1), (x102012_1), (x102013_1), (by first | rfl | (simp; done) | (simp [*]; done)), H', ⟨by have := HK1.out; omega⟩, ⟨by (with_reducible repeat (first | apply bkD | apply bkd | apply bkA)); exact BK101.out⟩, ⟨bq HB⟩⟩
          rw [if_neg c6] at H
          exact absurd H (by simp)
        rw [if_neg c5] at H
        exact absurd H (by simp)
      rw [if_neg c4] at H
      have c4b0 : decide (x9_1 < (l0.length : Int)) = false := decide_eq_false c4
      clear c4
      obtain rfl := Option.some.inj H
      obtain ⟨_,_,_,_,_,_,_,_,_,_,_,_,_,_⟩ := cz14 BK101.out
      have hfz26_0 := blk_frozen BK101.out
      go_wp2
      go_ret
      exact ⟨by first | rfl | (simp <;> rfl) | (simp [*] <;> rfl), bq HB⟩

end Go.Proofs.Ytphkgmdbdnjmbaa.Print
