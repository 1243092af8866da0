/- Go functions as plain functions, and that the Go code answers as these. Printed by wip/patch.py. -/
import Derived.Test.YtlneecichgimpaaPrint0
import Derived.Test.YtlneecichgimpaaPrintLawsBig
import Derived.Test.YtlneecichgimpaaPrintSpecL3Draw
namespace Go.Proofs.Ytlneecichgimpaa.Print
open Go.RowKit Go.Proofs.Ytlneecichgimpaa.Base Go.Proofs.YtlneecichgimpaaW.PrintWords Go.Proofs.YtlneecichgimpaaW.PrintLast Go.Proofs.YtlneecichgimpaaW.PrintMore
attribute [local go_sem] max2_int min2_int max_two min_two max_three min_three max_four min_four
set_option linter.all false

/-! ### spec_l6Draw: function 14 -/
def spec_l6Draw.l0 : Nat → Int → List Int → Int → Int → Int → Int → Int → Int → Bool → Int → Int → Int → Int → Int → Int → Int → Int → Int → Option (Int × Int × Int × Int × Bool × Int × Int × Int × Int × Int × Int × Int × Int × Int × Int × Int)
  | 0, _, _, _, _, _, _, _, _, _, _, _, _, _, _, _, _, _, _ => none
  | k + 1, x4, x1000, x1001, x1002, x119000, x119001, x119002, x119003, x119004, x119005, x119006, x119007, x119008, x119009, x119010, x119011, x119012, x119013 => if x4 < 4 then (if x119001 = 3 then (some (x119000, x119001, x119002, x119003, x119004, x119005, x119006, x119007, x119008, x119009, x119010, x119011, x119012, x119013, x1001, x1002)) else ((spec_l3Draw.f k x1000 x1001 x1002).bind fun bt119 => (spec_l6Draw.l0 k (wrap64 (x4 + 1)) x1000 bt119.2.2.2.2.2.2.2.2.2.2.2.2.2.2.1 bt119.2.2.2.2.2.2.2.2.2.2.2.2.2.2.2 bt119.1 bt119.2.1 bt119.2.2.1 bt119.2.2.2.1 bt119.2.2.2.2.1 bt119.2.2.2.2.2.1 bt119.2.2.2.2.2.2.1 bt119.2.2.2.2.2.2.2.1 bt119.2.2.2.2.2.2.2.2.1 bt119.2.2.2.2.2.2.2.2.2.1 bt119.2.2.2.2.2.2.2.2.2.2.1 bt119.2.2.2.2.2.2.2.2.2.2.2.1 bt119.2.2.2.2.2.2.2.2.2.2.2.2.1 bt119.2.2.2.2.2.2.2.2.2.2.2.2.2.1))) else (some (x119000, x119001, x119002, x119003, x119004, x119005, x119006, x119007, x119008, x119009, x119010, x119011, x119012, x119013, x1001, x1002))
def spec_l6Draw.f (k : Nat) (s0_0 : List Int) (s0_1 : Int) (s0_2 : Int) : Option (Int × Int × Int × Int × Bool × Int × Int × Int × Int × Int × Int × Int × Int × Int × Int × Int) := (spec_l3Draw.f k s0_0 s0_1 s0_2).bind fun bt102 => (spec_l6Draw.l0 k 0 s0_0 bt102.2.2.2.2.2.2.2.2.2.2.2.2.2.2.1 bt102.2.2.2.2.2.2.2.2.2.2.2.2.2.2.2 bt102.1 bt102.2.1 bt102.2.2.1 bt102.2.2.2.1 bt102.2.2.2.2.1 bt102.2.2.2.2.2.1 bt102.2.2.2.2.2.2.1 bt102.2.2.2.2.2.2.2.1 bt102.2.2.2.2.2.2.2.2.1 bt102.2.2.2.2.2.2.2.2.2.1 bt102.2.2.2.2.2.2.2.2.2.2.1 bt102.2.2.2.2.2.2.2.2.2.2.2.1 bt102.2.2.2.2.2.2.2.2.2.2.2.2.1 bt102.2.2.2.2.2.2.2.2.2.2.2.2.2.1)
theorem spec_l6Draw.mono_l : ∀ k, (∀ y0 y1 y2 y3 y4 y5 y6 y7 y8 y9 y10 y11 y12 y13 y14 y15 y16 y17, LeO (spec_l6Draw.l0 k y0 y1 y2 y3 y4 y5 y6 y7 y8 y9 y10 y11 y12 y13 y14 y15 y16 y17) (spec_l6Draw.l0 (k + 1) y0 y1 y2 y3 y4 y5 y6 y7 y8 y9 y10 y11 y12 y13 y14 y15 y16 y17))
  | 0 => fun _ _ _ _ _ _ _ _ _ _ _ _ _ _ _ _ _ _ r h => by simp [spec_l6Draw.l0] at h
  | k + 1 => by
    have ih0 := spec_l6Draw.mono_l k
    intro y0 y1 y2 y3 y4 y5 y6 y7 y8 y9 y10 y11 y12 y13 y14 y15 y16 y17
    unfold spec_l6Draw.l0
    repeat' first
    | (with_reducible exact ih0 _ _ _ _ _ _ _ _ _ _ _ _ _ _ _ _ _ _)
    | (with_reducible exact spec_l3Draw.mono _ _ _ _)
    | (with_reducible exact LeO.refl _)
    | (with_reducible exact LeO.none _)
    | (with_reducible refine LeO.ite ?_ ?_)
    | (with_reducible refine LeO.bind ?_ (fun _ => ?_))
theorem spec_l6Draw.mono : ∀ a0 a1 a2 k, LeO (spec_l6Draw.f k a0 a1 a2) (spec_l6Draw.f (k + 1) a0 a1 a2) := by
  intro a0 a1 a2 k
  have ih0 := spec_l6Draw.mono_l k
  unfold spec_l6Draw.f
  repeat' first
      | (with_reducible exact ih0 _ _ _ _ _ _ _ _ _ _ _ _ _ _ _ _ _ _)
      | (with_reducible exact spec_l3Draw.mono _ _ _ _)
      | (with_reducible exact LeO.refl _)
      | (with_reducible exact LeO.none _)
      | (with_reducible refine LeO.ite ?_ ?_)
      | (with_reducible refine LeO.bind ?_ (fun _ => ?_))
set_option maxHeartbeats 8000000 in
set_option maxRecDepth 100000 in
theorem spec_l6Draw.calls (k : Nat) (g : Nat) (s0_0 : List Int) (s0_1 : Int) (s0_2 : Int) (r1 : Int) (r2 : Int) (r3 : Int) (r4 : Int) (r5 : Bool) (r6 : Int) (r7 : Int) (r8 : Int) (r9 : Int) (r10 : Int) (r11 : Int) (r12 : Int) (r13 : Int) (r14 : Int) (r15 : Int) (r16 : Int) (w0 w : World) (hI : IsS43 w0 w g s0_0 s0_1 s0_2) (hB : Below w0.heap.size w0 w) (h : spec_l6Draw.f k s0_0 s0_1 s0_2 = some (r1, r2, r3, r4, r5, r6, r7, r8, r9, r10, r11, r12, r13, r14, r15, r16)) :
    Calls Try.prog 14 #[.pointer (some ⟨g, 0, none⟩)] w fun e w' => e = .returned (.agg #[.int .i64 r1, .int .i64 r2, .int .i64 r3, .int .i64 r4, .bool r5, .int .i64 r6, .int .i64 r7, .int .i64 r8, .int .i64 r9, .int .i64 r10, .int .i64 r11, .int .i64 r12, .int .i64 r13, .int .i64 r14]) ∧ IsS43 w0 w' g s0_0 r15 r16 ∧ Below w0.heap.size w0 w' ∧ KeepBut w w' g none := by
  have hu25 := Try.underlying25
  have HI0 := Aside0.mk hI
  have HK := aM (KeepBut.refl w g none)
  have HL := Aside0.mk hB.size
  clear hI
  have HW0 := Aside0.mk hB.size
  have HB := Aside0.mk hB
  clear hB
  have H : ((spec_l3Draw.f k s0_0 s0_1 s0_2).bind fun bt102 => (spec_l6Draw.l0 k 0 s0_0 bt102.2.2.2.2.2.2.2.2.2.2.2.2.2.2.1 bt102.2.2.2.2.2.2.2.2.2.2.2.2.2.2.2 bt102.1 bt102.2.1 bt102.2.2.1 bt102.2.2.2.1 bt102.2.2.2.2.1 bt102.2.2.2.2.2.1 bt102.2.2.2.2.2.2.1 bt102.2.2.2.2.2.2.2.1 bt102.2.2.2.2.2.2.2.2.1 bt102.2.2.2.2.2.2.2.2.2.1 bt102.2.2.2.2.2.2.2.2.2.2.1 bt102.2.2.2.2.2.2.2.2.2.2.2.1 bt102.2.2.2.2.2.2.2.2.2.2.2.2.1 bt102.2.2.2.2.2.2.2.2.2.2.2.2.2.1)) = some (r1, r2, r3, r4, r5, r6, r7, r8, r9, r10, r11, r12, r13, r14, r15, r16) := h
  clear h
  replace H := Option.bind_eq_some_iff.mp H
  obtain ⟨⟨t102, t103, t104, t105, t106, t107, t108, t109, t110, t111, t112, t113, t114, t115, t116, t117⟩, A20, H⟩ := H
  replace H : (spec_l6Draw.l0 k 0 s0_0 t116 t117 t102 t103 t104 t105 t106 t107 t108 t109 t110 t111 t112 t113 t114 t115) = some (r1, r2, r3, r4, r5, r6, r7, r8, r9, r10, r11, r12, r13, r14, r15, r16) := H
  have A2 := Aside0.mk A20
  clear A20
  have H' := Aside0.mk H
  clear H
  go_enter Try.func14, Try.ntmps14
  go_wp2_with (first | ((with_reducible refine gate_dst (N := 2) rfl ?_); refine bE (N := 2) (cs := tk14 0 0 0 0 false 0 0 0 0 0 0 0 0 0) (t := 25) ?_; intro gb101 hg w3 hbox hb; have n0_ := aM (IsS43.below (iq43 HI0) hb); have n1_ := aM (KeepBut.trans (kk HK) (KeepBut.of_below hb g none) (.inl rfl)); have n2_ := aM (below_step (bqs HB (IsS43.ge HI0.out)) hb); have n3_ := aM (hbox); have n4_ := aM ((by rw [hg]; exact (keep_size (w := w) (g := g) (row := none) (kk HK)) : w.heap.size ≤ gb101)); have n5_ := aM ((Nat.le_trans HW0.out (by rw [hg]; exact (keep_size (w := w) (g := g) (row := none) (kk HK)) : w.heap.size ≤ gb101) : w0.heap.size ≤ gb101)); have n6_ := aM ((by rw [hg]; exact Nat.ne_of_lt (IsS43.lt (show IsS43 w0 _ g s0_0 s0_1 s0_2 from iq43 HI0)) : g ≠ gb101)); have n7_ := aM ((by rw [hg]; exact Nat.ne_of_gt (IsS43.lt (show IsS43 w0 _ g s0_0 s0_1 s0_2 from iq43 HI0)) : gb101 ≠ g)); clear HI0 HK HB; have HI0 := n0_; have HK := n1_; have HB := n2_; have BK101 := n3_; have GW101 := n4_; have GE101 := n5_; have NB0_101 := n6_; have NB101_0 := n7_; clear n0_ n1_ n2_ n3_ n4_ n5_ n6_ n7_; clear hb hbox hg) | ((with_reducible refine gate_callee (f := 34) rfl ?_); refine gL (some 6) Try.func34 #[.pointer (some ⟨g, 0, none⟩)] ?_; (with_reducible refine (spec_l3Draw.calls k g s0_0 s0_1 s0_2 t102 t103 t104 t105 t106 t107 t108 t109 t110 t111 t112 t113 t114 t115 t116 t117 w0 _ ?side1 ?side2 A2.out).mono ?_); (case side1 => exact iq43 HI0); (case side2 => exact bqs HB (IsS43.ge HI0.out)); rintro e w4 ⟨rfl, hi, hb, hk⟩; refine ⟨_, rfl, ?_⟩; have n0_ := aM (KeepBut.blk hk (g' := gb101) (o := .cells (tk14 0 0 0 0 false 0 0 0 0 0 0 0 0 0) 25 (0, 0)) (kq BK101) NB101_0.out (by simp)); have n1_ := aM (KeepBut.trans (kk HK) hk (.inl rfl)); have n2_ := aM (hb); have n3_ := aM (hi); clear BK101 HK HB HI0; have BK101 := n0_; have HK := n1_; have HB := n2_; have HI0 := n3_; clear n0_ n1_ n2_ n3_; (try clear hb); (try clear hb2); (try clear hk); (try clear hi)) | ((with_reducible refine gate_dst (N := 3) rfl ?_); refine bE (N := 3) (cs := tk14 0 0 0 0 false 0 0 0 0 0 0 0 0 0) (t := 25) ?_; intro gb118 hg w5 hbox hb; have n0_ := aM (IsS43.below (iq43 HI0) hb); have n1_ := aM (blk_below (kq BK101) hb); have n2_ := aM (KeepBut.trans (kk HK) (KeepBut.of_below hb g none) (.inl rfl)); have n3_ := aM (below_step (bqs HB (IsS43.ge HI0.out)) hb); have n4_ := aM (hbox); have n5_ := aM ((by rw [hg]; exact (keep_size (w := w) (g := g) (row := none) (kk HK)) : w.heap.size ≤ gb118)); have n6_ := aM ((Nat.le_trans HW0.out (by rw [hg]; exact (keep_size (w := w) (g := g) (row := none) (kk HK)) : w.heap.size ≤ gb118) : w0.heap.size ≤ gb118)); have n7_ := aM ((by rw [hg]; exact Nat.ne_of_lt (blk_lt (kq BK101)) : gb101 ≠ gb118)); have n8_ := aM (n7_.out.symm); have n9_ := aM ((by rw [hg]; exact Nat.ne_of_lt (IsS43.lt (show IsS43 w0 _ g s0_0 t116 t117 from iq43 HI0)) : g ≠ gb118)); have n10_ := aM ((by rw [hg]; exact Nat.ne_of_gt (IsS43.lt (show IsS43 w0 _ g s0_0 t116 t117 from iq43 HI0)) : gb118 ≠ g)); clear HI0 BK101 HK HB; have HI0 := n0_; have BK101 := n1_; have HK := n2_; have HB := n3_; have BK118 := n4_; have GW118 := n5_; have GE118 := n6_; have NB101_118 := n7_; have NB118_101 := n8_; have NB0_118 := n9_; have NB118_0 := n10_; clear n0_ n1_ n2_ n3_ n4_ n5_ n6_ n7_ n8_ n9_ n10_; clear hb hbox hg; have hnb6 := NB118_101.out; have hnc6 := NB101_118.out; have hnb7 := NB118_0.out; have hnc7 := NB0_118.out; obtain ⟨_,_,_,_,_,_,_,_,_,_,_,_,_,_⟩ := cz14 BK118.out; have hfz8_0 := blk_frozen BK118.out))
  go_loopg [4] k (fun kq v4 w' => ∃ (x4_1 : Int) (x1001_1 : Int) (x1002_1 : Int) (x119000_1 : Int) (x119001_1 : Int) (x119002_1 : Int) (x119003_1 : Int) (x119004_1 : Bool) (x119005_1 : Int) (x119006_1 : Int) (x119007_1 : Int) (x119008_1 : Int) (x119009_1 : Int) (x119010_1 : Int) (x119011_1 : Int) (x119012_1 : Int) (x119013_1 : Int), v4 = .int .i64 x4_1 ∧ Aside0 (spec_l6Draw.l0 kq x4_1 s0_0 x1001_1 x1002_1 x119000_1 x119001_1 x119002_1 x119003_1 x119004_1 x119005_1 x119006_1 x119007_1 x119008_1 x119009_1 x119010_1 x119011_1 x119012_1 x119013_1 = some (r1, r2, r3, r4, r5, r6, r7, r8, r9, r10, r11, r12, r13, r14, r15, r16)) ∧ Aside0 (kq ≤ k) ∧ Aside0 (w'.heap[gb101]? = some (.cells #[.int .i64 0, .int .i64 0, .int .i64 0, .int .i64 0, .bool false, .int .i64 0, .int .i64 0, .int .i64 0, .int .i64 0, .int .i64 0, .int .i64 0, .int .i64 0, .int .i64 0, .int .i64 0] 25 (0, 0))) ∧ Aside0 (w'.heap[gb118]? = some (.cells #[.int .i64 x119000_1, .int .i64 x119001_1, .int .i64 x119002_1, .int .i64 x119003_1, .bool x119004_1, .int .i64 x119005_1, .int .i64 x119006_1, .int .i64 x119007_1, .int .i64 x119008_1, .int .i64 x119009_1, .int .i64 x119010_1, .int .i64 x119011_1, .int .i64 x119012_1, .int .i64 x119013_1] 25 (0, 0))) ∧ Aside0 (IsS43 w0 w' g s0_0 x1001_1 x1002_1) ∧ Aside0 (KeepBut w w' g none) ∧ Aside0 (Below w0.heap.size w0 w'))
  case atStart => exact ⟨(0), (t116), (t117), (t102), (t103), (t104), (t105), (t106), (t107), (t108), (t109), (t110), (t111), (t112), (t113), (t114), (t115), sQ, H', ⟨Nat.le_refl _⟩, ⟨by refine far14 ?_ NB101_118.out; (with_reducible repeat (first | apply bkD | apply bkd | apply bkA)); exact BK101.out⟩, ⟨by refine put14 (cs := tk14 0 0 0 0 false 0 0 0 0 0 0 0 0 0) ?_; (with_reducible repeat (first | apply bkD | apply bkd | apply bkA)); exact BK118.out⟩, ⟨iq43 HI0⟩, ⟨kk HK⟩, ⟨bqs HB (IsS43.ge HI0.out)⟩⟩
  case round =>
    clear H'
    try clear c1
    try clear p2
    try clear c3
    try clear c6
    try clear c7
    try clear hfz8_0
    obtain ⟨x4_1, x1001_1, x1002_1, x119000_1, x119001_1, x119002_1, x119003_1, x119004_1, x119005_1, x119006_1, x119007_1, x119008_1, x119009_1, x119010_1, x119011_1, x119012_1, x119013_1, rfl, HA, HK1, BK101, BK118, HI0, HK, HB⟩ := hrel
    cases gk with
    | zero => exact absurd HA.out (by simp [spec_l6Draw.l0])
    | succ k1 =>
      have H := HA.out
      clear HA
      simp only [spec_l6Draw.l0] at H
      by_cases c9 : x4_1 < 4
      · rw [if_pos c9] at H
        have c9b0 : decide (x4_1 < 4) = true := decide_eq_true c9
        clear c9
        by_cases c10 : x119001_1 = 3
        · rw [if_pos c10] at H
          have c10b0 : (x119001_1 == 3) = true := beq_iff_eq.mpr c10
          have c10b1 : (x119001_1 != 3) = false := bne_eq_false_iff_eq.mpr c10
          clear c10
          simp only [Option.some.injEq, Prod.mk.injEq] at H
          obtain ⟨rfl, rfl, rfl, rfl, rfl, rfl, rfl, rfl, rfl, rfl, rfl, rfl, rfl, rfl, rfl, rfl⟩ := H
          have hnb11 := NB118_101.out
          have hnc11 := NB101_118.out
          have hnb12 := NB118_0.out
          have hnc12 := NB0_118.out
          obtain ⟨_,_,_,_,_,_,_,_,_,_,_,_,_,_⟩ := cz14 BK118.out
          have hfz13_0 := blk_frozen BK118.out
          have hnb14 := NB101_0.out
          have hnc14 := NB0_101.out
          obtain ⟨_,_,_,_,_,_,_,_,_,_,_,_,_,_⟩ := cz14 BK101.out
          have hfz15_0 := blk_frozen BK101.out
          go_wp2
          refine bodyPost_ret (results_cell_row rfl _ _ gb101 25 #[.int .i64 x119000_1, .int .i64 x119001_1, .int .i64 x119002_1, .int .i64 x119003_1, .bool x119004_1, .int .i64 x119005_1, .int .i64 x119006_1, .int .i64 x119007_1, .int .i64 x119008_1, .int .i64 x119009_1, .int .i64 x119010_1, .int .i64 x119011_1, .int .i64 x119012_1, .int .i64 x119013_1] (0, 0) _ rfl (by refine put14 (cs := tk14 0 0 0 0 false 0 0 0 0 0 0 0 0 0) ?_; (with_reducible repeat (first | apply bkD | apply bkd | apply bkA)); exact BK101.out) Try.underlying25 rfl (by kernel_rfl)) rfl ?_
          exact ⟨sR, iq43 HI0, bqs HB (IsS43.ge HI0.out), kk HK⟩
        rw [if_neg c10] at H
        have c10b0 : (x119001_1 == 3) = false := beq_eq_false_iff_ne.mpr c10
        have c10b1 : (x119001_1 != 3) = true := bne_iff_ne.mpr c10
        replace H := Option.bind_eq_some_iff.mp H
        obtain ⟨⟨t119, t120, t121, t122, t123, t124, t125, t126, t127, t128, t129, t130, t131, t132, t133, t134⟩, A160, H⟩ := H
        replace H : (spec_l6Draw.l0 k1 (wrap64 (x4_1 + 1)) s0_0 t133 t134 t119 t120 t121 t122 t123 t124 t125 t126 t127 t128 t129 t130 t131 t132) = some (r1, r2, r3, r4, r5, r6, r7, r8, r9, r10, r11, r12, r13, r14, r15, r16) := H
        have A16 := Aside0.mk A160
        clear A160
        have H' := Aside0.mk H
        clear H
        have hnb17 := NB118_101.out
        have hnc17 := NB101_118.out
        have hnb18 := NB118_0.out
        have hnc18 := NB0_118.out
        obtain ⟨_,_,_,_,_,_,_,_,_,_,_,_,_,_⟩ := cz14 BK118.out
        have hfz19_0 := blk_frozen BK118.out
        go_wp2_with (first | ((with_reducible refine gate_callee (f := 34) rfl ?_); refine gL (some 17) Try.func34 #[.pointer (some ⟨g, 0, none⟩)] ?_; (with_reducible refine (spec_l3Draw.calls k1 g s0_0 x1001_1 x1002_1 t119 t120 t121 t122 t123 t124 t125 t126 t127 t128 t129 t130 t131 t132 t133 t134 w0 _ ?side1 ?side2 A16.out).mono ?_); (case side1 => exact iq43 HI0); (case side2 => exact bqs HB (IsS43.ge HI0.out)); rintro e w20 ⟨rfl, hi, hb, hk⟩; refine ⟨_, rfl, ?_⟩; have n0_ := aM (KeepBut.blk hk (g' := gb101) (o := .cells (tk14 0 0 0 0 false 0 0 0 0 0 0 0 0 0) 25 (0, 0)) (kq BK101) NB101_0.out (by simp)); have n1_ := aM (KeepBut.blk hk (g' := gb118) (o := .cells (tk14 x119000_1 x119001_1 x119002_1 x119003_1 x119004_1 x119005_1 x119006_1 x119007_1 x119008_1 x119009_1 x119010_1 x119011_1 x119012_1 x119013_1) 25 (0, 0)) (kq BK118) NB118_0.out (by simp)); have n2_ := aM (KeepBut.trans (kk HK) hk (.inl rfl)); have n3_ := aM (hb); have n4_ := aM (hi); clear BK101 BK118 HK HB HI0; have BK101 := n0_; have BK118 := n1_; have HK := n2_; have HB := n3_; have HI0 := n4_; clear n0_ n1_ n2_ n3_ n4_; (try clear hb); (try clear hb2); (try clear hk); (try clear hi); obtain ⟨_,_,_,_,_,_,_,_,_,_,_,_,_,_⟩ := cz14 BK118.out; have hfz21_0 := blk_frozen BK118.out))
        go_roundg k1
        case measure => have := HK1.out; omega
        case rel => exact ⟨(wrap64 (x4_1 + 1)), (t133), (t134), (t119), (t120), (t121), (t122), (t123), (t124), (t125), (t126), (t127), (t128), (t129), (t130), (t131), (t132), sQ, H', ⟨by have := HK1.out; omega⟩, ⟨by refine far14 ?_ NB101_118.out; (with_reducible repeat (first | apply bkD | apply bkd | apply bkA)); exact BK101.out⟩, ⟨by refine put14 (cs := tk14 x119000_1 x119001_1 x119002_1 x119003_1 x119004_1 x119005_1 x119006_1 x119007_1 x119008_1 x119009_1 x119010_1 x119011_1 x119012_1 x119013_1) ?_; (with_reducible repeat (first | apply bkD | apply bkd | apply bkA)); exact BK118.out⟩, ⟨iq43 HI0⟩, ⟨kk HK⟩, ⟨bqs HB (IsS43.ge HI0.out)⟩⟩
      rw [if_neg c9] at H
      have c9b0 : decide (x4_1 < 4) = false := decide_eq_false c9
      clear c9
      simp only [Option.some.injEq, Prod.mk.injEq] at H
      obtain ⟨rfl, rfl, rfl, rfl, rfl, rfl, rfl, rfl, rfl, rfl, rfl, rfl, rfl, rfl, rfl, rfl⟩ := H
      have hnb22 := NB118_101.out
      have hnc22 := NB101_118.out
      have hnb23 := NB118_0.out
      have hnc23 := NB0_118.out
      obtain ⟨_,_,_,_,_,_,_,_,_,_,_,_,_,_⟩ := cz14 BK118.out
      have hfz24_0 := blk_frozen BK118.out
      have hnb25 := NB101_0.out
      have hnc25 := NB0_101.out
      obtain ⟨_,_,_,_,_,_,_,_,_,_,_,_,_,_⟩ := cz14 BK101.out
      have hfz26_0 := blk_frozen BK101.out
      go_wp2
      refine bodyPost_ret (results_cell_row rfl _ _ gb101 25 #[.int .i64 x119000_1, .int .i64 x119001_1, .int .i64 x119002_1, .int .i64 x119003_1, .bool x119004_1, .int .i64 x119005_1, .int .i64 x119006_1, .int .i64 x119007_1, .int .i64 x119008_1, .int .i64 x119009_1, .int .i64 x119010_1, .int .i64 x119011_1, .int .i64 x119012_1, .int .i64 x119013_1] (0, 0) _ rfl (by refine put14 (cs := tk14 0 0 0 0 false 0 0 0 0 0 0 0 0 0) ?_; (with_reducible repeat (first | apply bkD | apply bkd | apply bkA)); exact BK101.out) Try.underlying25 rfl (by kernel_rfl)) rfl ?_
      exact ⟨sR, iq43 HI0, bqs HB (IsS43.ge HI0.out), kk HK⟩

/-! ### spec_l6DrawFloor: function 15 -/
def spec_l6DrawFloor.f (s0_0 : List Int) (s0_1 : Int) (s0_2 : Int) : Option (Int × Int × Int) := (spec_l1Once.f s0_0 s0_1 s0_2 12).bind fun bt101 => (if bt101.1 = true then ((spec_l1PickInt.f s0_0 bt101.2.1 bt101.2.2 (([(-1), 100000000, 100000001] : List Int))).bind fun bt107 => (some (bt107.1, bt107.2.1, bt107.2.2))) else ((spec_l1Below.f s0_0 bt101.2.1 bt101.2.2 70).bind fun bt110 => (some (bt110.1, bt110.2.1, bt110.2.2))))
set_option maxHeartbeats 8000000 in
set_option maxRecDepth 100000 in
theorem spec_l6DrawFloor.calls (g : Nat) (s0_0 : List Int) (s0_1 : Int) (s0_2 : Int) (r1 : Int) (r2 : Int) (r3 : Int) (w0 w : World) (hI : IsS43 w0 w g s0_0 s0_1 s0_2) (hB : Below w0.heap.size w0 w) (h : spec_l6DrawFloor.f s0_0 s0_1 s0_2 = some (r1, r2, r3)) :
    Calls Try.prog 15 #[.pointer (some ⟨g, 0, none⟩)] w fun e w' => e = .returned (.int .i64 r1) ∧ IsS43 w0 w' g s0_0 r2 r3 ∧ Below w0.heap.size w0 w' ∧ KeepBut w w' g none := by
  have HI0 := Aside0.mk hI
  have HK := aM (KeepBut.refl w g none)
  have HL := Aside0.mk hB.size
  clear hI
  have HW0 := Aside0.mk hB.size
  have HB := Aside0.mk hB
  clear hB
  have H : ((spec_l1Once.f s0_0 s0_1 s0_2 12).bind fun bt101 => (if bt101.1 = true then ((spec_l1PickInt.f s0_0 bt101.2.1 bt101.2.2 (([(-1), 100000000, 100000001] : List Int))).bind fun bt107 => (some (bt107.1, bt107.2.1, bt107.2.2))) else ((spec_l1Below.f s0_0 bt101.2.1 bt101.2.2 70).bind fun bt110 => (some (bt110.1, bt110.2.1, bt110.2.2))))) = some (r1, r2, r3) := h
  clear h
  replace H := Option.bind_eq_some_iff.mp H
  obtain ⟨⟨t101, t102, t103⟩, A20, H⟩ := H
  replace H : (if t101 = true then ((spec_l1PickInt.f s0_0 t102 t103 (([(-1), 100000000, 100000001] : List Int))).bind fun bt107 => (some (bt107.1, bt107.2.1, bt107.2.2))) else ((spec_l1Below.f s0_0 t102 t103 70).bind fun bt110 => (some (bt110.1, bt110.2.1, bt110.2.2)))) = some (r1, r2, r3) := H
  have A2 := Aside0.mk A20
  clear A20
  by_cases c3 : t101 = true
  · subst c3
    have H1 : ((spec_l1PickInt.f s0_0 t102 t103 (([(-1), 100000000, 100000001] : List Int))).bind fun bt107 => (some (bt107.1, bt107.2.1, bt107.2.2))) = some (r1, r2, r3) := by rw [if_pos rfl] at H; exact H
    clear H
    have H := H1
    clear H1
    obtain ⟨y104, hy104⟩ : ∃ y_ : List Int, y_ = (([(-1), 100000000, 100000001] : List Int)) := ⟨_, rfl⟩
    replace H : ((spec_l1PickInt.f s0_0 t102 t103 y104).bind fun bt107 => (some (bt107.1, bt107.2.1, bt107.2.2))) = some (r1, r2, r3) := by first | (rw [hy104]; with_reducible exact H) | (have H2_ := (Option.bind_some _ _).symm.trans H; rw [hy104]; with_reducible exact H2_) | (have H2_ := (Option.bind_some _ _).symm.trans H; with_reducible exact H2_) | with_reducible exact H | (rw [hy104]; exact H) | exact H
    have Ny104 := Aside0.mk hy104
    clear hy104
    replace H := Option.bind_eq_some_iff.mp H
    obtain ⟨⟨t107, t108, t109⟩, A40, H⟩ := H
    replace H : (some (t107, t108, t109)) = some (r1, r2, r3) := H
    have A4 := Aside0.mk A40
    clear A40
    simp only [Option.some.injEq, Prod.mk.injEq] at H
    obtain ⟨rfl, rfl, rfl⟩ := H
    go_enter Try.func15, Try.ntmps15
    go_wp2_with (first | ((with_reducible refine gate_callee (f := 35) rfl ?_); refine gL (some 4) Try.func35 #[.pointer (some ⟨g, 0, none⟩), .int .i64 12] ?_; (with_reducible refine (spec_l1Once.calls g s0_0 s0_1 s0_2 12 true t102 t103 w0 _ ?side1 ?side2 A2.out).mono ?_); (case side1 => exact iq43 HI0); (case side2 => exact bqs HB (IsS43.ge HI0.out)); rintro e w5 ⟨rfl, hi, hb, hk⟩; refine ⟨_, rfl, ?_⟩; have n0_ := aM (KeepBut.trans (kk HK) hk (.inl rfl)); have n1_ := aM (hb); have n2_ := aM (hi); clear HK HB HI0; have HK := n0_; have HB := n1_; have HI0 := n2_; clear n0_ n1_ n2_; (try clear hb); (try clear hb2); (try clear hk); (try clear hi)) | ((with_reducible refine gate_dst (N := 6) rfl ?_); refine Kd.R_lit (Kd.int .i64) _ 3 ?hg (N := 6) ?hd (xs := ([(-1), 100000000, 100000001] : List Int)) (inner := [.int .i64 (-1), .int .i64 100000000, .int .i64 100000001]) (ok := fun _ => True) (okp := fun _ => True) ?hr ?hp (fun _ hk => hk) trivial (Below.refl _ _) (Nat.le_refl _) (by simp) ?_; (case hd => rfl); (case hg => rfl); (case hr => first | (go_simp; done) | (go_simp; rfl)); (case hp => exact (Reps.one (show Kd.M (Kd.int .i64) _ _ _ (-1) [.int .i64 (-1)] from rfl) (Reps.one (show Kd.M (Kd.int .i64) _ _ _ 100000000 [.int .i64 100000000] from rfl) (Reps.one (show Kd.M (Kd.int .i64) _ _ _ 100000001 [.int .i64 100000001] from rfl) (Reps.none _ _))))); intro v105 w6 ho7 hb hg_ hnew_; clear hg_ hnew_; (first | rw [← Ny104.out] at ho7 | (simp only [Int.reduceToNat] at ho7; rw [← Ny104.out] at ho7)); have n0_ := aM (Kd.R_lower ho7 (keep_size (w := w) (g := g) (row := none) (kk HK))); have n1_ := aM (IsS43.below (iq43 HI0) hb); have n2_ := aM (KeepBut.trans (kk HK) (KeepBut.of_below hb g none) (.inl rfl)); have n3_ := aM (below_step (bqs HB (IsS43.ge HI0.out)) hb); clear HI0 HK HB; have HO106 := n0_; have HI0 := n1_; have HK := n2_; have HB := n3_; clear n0_ n1_ n2_ n3_; clear hb ho7; obtain ⟨Ao8, co8, eo8⟩ := Kd.R_slice HO106.out; subst eo8) | ((with_reducible refine gate_callee (f := 36) rfl ?_); refine gL (some 7) Try.func36 #[.pointer (some ⟨g, 0, none⟩), .slice Ao8 y104.length co8] ?_; (with_reducible refine (spec_l1PickInt.calls g s0_0 t102 t103 _ _ y104 t107 t108 t109 w0 _ ?side1 ?side2 ?side3 ?side4 ?side5 A4.out).mono ?_); (case side1 => exact iq43 HI0); (case side2 => exact bqs HB (IsS43.ge HI0.out)); (case side3 => exact cq (Kd.R_reads' HO106.out).2.2); (case side4 => exact (Kd.R_reads' HO106.out).2.1); (case side5 => exact far_slice (IsS43.own_ne HI0.out HO106.out (by decide))); rintro e w9 ⟨rfl, hi, hb, hk⟩; refine ⟨_, rfl, ?_⟩; have n0_ := aM (Kd.R_mono (Kd.R_keep (IsS43.apart (show IsS43 w0 _ g s0_0 t102 t103 from iq43 HI0) (rq HO106) (by decide)) hk (fun _ h => h.2)) (fun _ h => h.1)); have n1_ := aM (KeepBut.trans (kk HK) hk (.inl rfl)); have n2_ := aM (hb); have n3_ := aM (hi); clear HO106 HK HB HI0; have HO106 := n0_; have HK := n1_; have HB := n2_; have HI0 := n3_; clear n0_ n1_ n2_ n3_; (try clear hb); (try clear hb2); (try clear hk); (try clear hi)))
    go_ret
    exact ⟨sR, iq43 HI0, bqs HB (IsS43.ge HI0.out), kk HK⟩
  replace c3 := Bool.eq_false_iff.mpr c3
  subst c3
  have H1 : ((spec_l1Below.f s0_0 t102 t103 70).bind fun bt110 => (some (bt110.1, bt110.2.1, bt110.2.2))) = some (r1, r2, r3) := by rw [if_neg (show ¬ (false = true) by decide)] at H; exact H
  clear H
  have H := H1
  clear H1
  replace H := Option.bind_eq_some_iff.mp H
  obtain ⟨⟨t110, t111, t112⟩, A100, H⟩ := H
  replace H : (some (t110, t111, t112)) = some (r1, r2, r3) := H
  have A10 := Aside0.mk A100
  clear A100
  simp only [Option.some.injEq, Prod.mk.injEq] at H
  obtain ⟨rfl, rfl, rfl⟩ := H
  go_enter Try.func15, Try.ntmps15
  go_wp2_with (first | ((with_reducible refine gate_callee (f := 35) rfl ?_); refine gL (some 4) Try.func35 #[.pointer (some ⟨g, 0, none⟩), .int .i64 12] ?_; (with_reducible refine (spec_l1Once.calls g s0_0 s0_1 s0_2 12 false t102 t103 w0 _ ?side1 ?side2 A2.out).mono ?_); (case side1 => exact iq43 HI0); (case side2 => exact bqs HB (IsS43.ge HI0.out)); rintro e w11 ⟨rfl, hi, hb, hk⟩; refine ⟨_, rfl, ?_⟩; have n0_ := aM (KeepBut.trans (kk HK) hk (.inl rfl)); have n1_ := aM (hb); have n2_ := aM (hi); clear HK HB HI0; have HK := n0_; have HB := n1_; have HI0 := n2_; clear n0_ n1_ n2_; (try clear hb); (try clear hb2); (try clear hk); (try clear hi)) | ((with_reducible refine gate_callee (f := 37) rfl ?_); refine gL (some 9) Try.func37 #[.pointer (some ⟨g, 0, none⟩), .int .i64 70] ?_; (with_reducible refine (spec_l1Below.calls g s0_0 t102 t103 70 t110 t111 t112 w0 _ ?side1 ?side2 A10.out).mono ?_); (case side1 => exact iq43 HI0); (case side2 => exact bqs HB (IsS43.ge HI0.out)); rintro e w12 ⟨rfl, hi, hb, hk⟩; refine ⟨_, rfl, ?_⟩; have n0_ := aM (KeepBut.trans (kk HK) hk (.inl rfl)); have n1_ := aM (hb); have n2_ := aM (hi); clear HK HB HI0; have HK := n0_; have HB := n1_; have HI0 := n2_; clear n0_ n1_ n2_; (try clear hb); (try clear hb2); (try clear hk); (try clear hi)))
  go_ret
  exact ⟨sR, iq43 HI0, bqs HB (IsS43.ge HI0.out), kk HK⟩

end Go.Proofs.Ytlneecichgimpaa.Print
