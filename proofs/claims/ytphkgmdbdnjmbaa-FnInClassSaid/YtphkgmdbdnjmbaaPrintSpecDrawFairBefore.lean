/- Go functions as plain Lean functions, and that the Go code answers just as these, wherever they answer. Conditions: those of each theorem. Written by a program of this session (wip/patch.py). -/
import Derived.Test.YtphkgmdbdnjmbaaPrint0
import Derived.Test.YtphkgmdbdnjmbaaPrintLawsBig
import Derived.Test.YtphkgmdbdnjmbaaPrintSpecL6Draw
namespace Go.Proofs.Ytphkgmdbdnjmbaa.Print
open Go.RowKit Go.Proofs.Ytphkgmdbdnjmbaa.Base Go.Proofs.YtphkgmdbdnjmbaaW.PrintWords Go.Proofs.YtphkgmdbdnjmbaaW.PrintLast Go.Proofs.YtphkgmdbdnjmbaaW.PrintMore
attribute [local go_sem] max2_int min2_int max_two min_two max_three min_three max_four min_four   -- for this text's walks alone
set_option linter.unusedVariables false
set_option linter.unusedSimpArgs false

/-! ### spec_DrawFairBefore: function 33 -/
def spec_DrawFairBefore.f (k : Nat) (l0 : List Int) : Option (Int × Int × Int × Int × Bool × Int × Int × Int × Int × Int × Int × Int × Int × Int × Int × Int × Int × Int × Bool × Int × Int × Int × Int × Int × Int × Int × Int × Int) := (spec_l1New.f k l0).bind fun bt103 => ((spec_l6Draw.f k bt103.1 bt103.2.1 bt103.2.2).bind fun bt107 => ((spec_l6Draw.f k bt103.1 bt107.2.2.2.2.2.2.2.2.2.2.2.2.2.2.1 bt107.2.2.2.2.2.2.2.2.2.2.2.2.2.2.2).bind fun bt124 => (some (bt107.1, bt107.2.1, bt107.2.2.1, bt107.2.2.2.1, bt107.2.2.2.2.1, bt107.2.2.2.2.2.1, bt107.2.2.2.2.2.2.1, bt107.2.2.2.2.2.2.2.1, bt107.2.2.2.2.2.2.2.2.1, bt107.2.2.2.2.2.2.2.2.2.1, bt107.2.2.2.2.2.2.2.2.2.2.1, bt107.2.2.2.2.2.2.2.2.2.2.2.1, bt107.2.2.2.2.2.2.2.2.2.2.2.2.1, bt107.2.2.2.2.2.2.2.2.2.2.2.2.2.1, bt124.1, bt124.2.1, bt124.2.2.1, bt124.2.2.2.1, bt124.2.2.2.2.1, bt124.2.2.2.2.2.1, bt124.2.2.2.2.2.2.1, bt124.2.2.2.2.2.2.2.1, bt124.2.2.2.2.2.2.2.2.1, bt124.2.2.2.2.2.2.2.2.2.1, bt124.2.2.2.2.2.2.2.2.2.2.1, bt124.2.2.2.2.2.2.2.2.2.2.2.1, bt124.2.2.2.2.2.2.2.2.2.2.2.2.1, bt124.2.2.2.2.2.2.2.2.2.2.2.2.2.1))))
theorem spec_DrawFairBefore.mono : ∀ a0 k, LeO (spec_DrawFairBefore.f k a0) (spec_DrawFairBefore.f (k + 1) a0) := by
  intro a0 k
  unfold spec_DrawFairBefore.f
  repeat' first
      | (with_reducible exact spec_l1New.mono _ _)
      | (with_reducible exact spec_l6Draw.mono _ _ _ _)
      | (with_reducible exact LeO.refl _)
      | (with_reducible exact LeO.none _)
      | (with_reducible refine LeO.ite ?_ ?_)
      | (with_reducible refine LeO.bind ?_ (fun _ => ?_))
      | exact spec_l1New.mono _ _
      | exact spec_l6Draw.mono _ _ _ _
      | exact LeO.none _
      | refine LeO.ite ?_ ?_
      | refine LeO.bind ?_ (fun _ => ?_)
set_option maxHeartbeats 8000000 in
set_option maxRecDepth 100000 in
theorem spec_DrawFairBefore.calls (k : Nat) (A0 : Option Addr) (c0 : Nat) (l0 : List Int) (r1 : Int) (r2 : Int) (r3 : Int) (r4 : Int) (r5 : Bool) (r6 : Int) (r7 : Int) (r8 : Int) (r9 : Int) (r10 : Int) (r11 : Int) (r12 : Int) (r13 : Int) (r14 : Int) (r15 : Int) (r16 : Int) (r17 : Int) (r18 : Int) (r19 : Bool) (r20 : Int) (r21 : Int) (r22 : Int) (r23 : Int) (r24 : Int) (r25 : Int) (r26 : Int) (r27 : Int) (r28 : Int) (w : World) (hr0 : Kd.C (Kd.int .u8) w A0 l0.length l0) (hc0 : l0.length ≤ c0) (h : spec_DrawFairBefore.f k l0 = some (r1, r2, r3, r4, r5, r6, r7, r8, r9, r10, r11, r12, r13, r14, r15, r16, r17, r18, r19, r20, r21, r22, r23, r24, r25, r26, r27, r28)) :
    Calls Try.prog 33 #[.slice A0 l0.length c0] w fun e w' => e = .returned (.tuple #[.agg #[.int .i64 r1, .int .i64 r2, .int .i64 r3, .int .i64 r4, .bool r5, .int .i64 r6, .int .i64 r7, .int .i64 r8, .int .i64 r9, .int .i64 r10, .int .i64 r11, .int .i64 r12, .int .i64 r13, .int .i64 r14], .agg #[.int .i64 r15, .int .i64 r16, .int .i64 r17, .int .i64 r18, .bool r19, .int .i64 r20, .int .i64 r21, .int .i64 r22, .int .i64 r23, .int .i64 r24, .int .i64 r25, .int .i64 r26, .int .i64 r27, .int .i64 r28]]) ∧ Below w.heap.size w w' := by
  have hu27 := Try.underlying27
  have HR0 := Aside0.mk hr0
  have HC0 := Aside0.mk hc0
  clear hr0 hc0
  have HB := aM (Below.refl w.heap.size w)
  have H : ((spec_l1New.f k l0).bind fun bt103 => ((spec_l6Draw.f k bt103.1 bt103.2.1 bt103.2.2).bind fun bt107 => ((spec_l6Draw.f k bt103.1 bt107.2.2.2.2.2.2.2.2.2.2.2.2.2.2.1 bt107.2.2.2.2.2.2.2.2.2.2.2.2.2.2.2).bind fun bt124 => (some (bt107.1, bt107.2.1, bt107.2.2.1, bt107.2.2.2.1, bt107.2.2.2.2.1, bt107.2.2.2.2.2.1, bt107.2.2.2.2.2.2.1, bt107.2.2.2.2.2.2.2.1, bt107.2.2.2.2.2.2.2.2.1, bt107.2.2.2.2.2.2.2.2.2.1, bt107.2.2.2.2.2.2.2.2.2.2.1, bt107.2.2.2.2.2.2.2.2.2.2.2.1, bt107.2.2.2.2.2.2.2.2.2.2.2.2.1, bt107.2.2.2.2.2.2.2.2.2.2.2.2.2.1, bt124.1, bt124.2.1, bt124.2.2.1, bt124.2.2.2.1, bt124.2.2.2.2.1, bt124.2.2.2.2.2.1, bt124.2.2.2.2.2.2.1, bt124.2.2.2.2.2.2.2.1, bt124.2.2.2.2.2.2.2.2.1, bt124.2.2.2.2.2.2.2.2.2.1, bt124.2.2.2.2.2.2.2.2.2.2.1, bt124.2.2.2.2.2.2.2.2.2.2.2.1, bt124.2.2.2.2.2.2.2.2.2.2.2.2.1, bt124.2.2.2.2.2.2.2.2.2.2.2.2.2.1))))) = some (r1, r2, r3, r4, r5, r6, r7, r8, r9, r10, r11, r12, r13, r14, r15, r16, r17, r18, r19, r20, r21, r22, r23, r24, r25, r26, r27, r28) := h
  clear h
  replace H := Option.bind_eq_some_iff.mp H
  obtain ⟨⟨t103, t104, t105⟩, A20, H⟩ := H
  replace H : ((spec_l6Draw.f k t103 t104 t105).bind fun bt107 => ((spec_l6Draw.f k t103 bt107.2.2.2.2.2.2.2.2.2.2.2.2.2.2.1 bt107.2.2.2.2.2.2.2.2.2.2.2.2.2.2.2).bind fun bt124 => (some (bt107.1, bt107.2.1, bt107.2.2.1, bt107.2.2.2.1, bt107.2.2.2.2.1, bt107.2.2.2.2.2.1, bt107.2.2.2.2.2.2.1, bt107.2.2.2.2.2.2.2.1, bt107.2.2.2.2.2.2.2.2.1, bt107.2.2.2.2.2.2.2.2.2.1, bt107.2.2.2.2.2.2.2.2.2.2.1, bt107.2.2.2.2.2.2.2.2.2.2.2.1, bt107.2.2.2.2.2.2.2.2.2.2.2.2.1, bt107.2.2.2.2.2.2.2.2.2.2.2.2.2.1, bt124.1, bt124.2.1, bt124.2.2.1, bt124.2.2.2.1, bt124.2.2.2.2.1, bt124.2.2.2.2.2.1, bt124.2.2.2.2.2.2.1, bt124.2.2.2.2.2.2.2.1, bt124.2.2.2.2.2.2.2.2.1, bt124.2.2.2.2.2.2.2.2.2.1, bt124.2.2.2.2.2.2.2.2.2.2.1, bt124.2.2.2.2.2.2.2.2.2.2.2.1, bt124.2.2.2.2.2.2.2.2.2.2.2.2.1, bt124.2.2.2.2.2.2.2.2.2.2.2.2.2.1)))) = some (r1, r2, r3, r4, r5, r6, r7, r8, r9, r10, r11, r12, r13, r14, r15, r16, r17, r18, r19, r20, r21, r22, r23, r24, r25, r26, r27, r28) := H
  have A2 := Aside0.mk A20
  clear A20
  replace H := Option.bind_eq_some_iff.mp H
  obtain ⟨⟨t107, t108, t109, t110, t111, t112, t113, t114, t115, t116, t117, t118, t119, t120, t121, t122⟩, A30, H⟩ := H
  replace H : ((spec_l6Draw.f k t103 t121 t122).bind fun bt124 => (some (t107, t108, t109, t110, t111, t112, t113, t114, t115, t116, t117, t118, t119, t120, bt124.1, bt124.2.1, bt124.2.2.1, bt124.2.2.2.1, bt124.2.2.2.2.1, bt124.2.2.2.2.2.1, bt124.2.2.2.2.2.2.1, bt124.2.2.2.2.2.2.2.1, bt124.2.2.2.2.2.2.2.2.1, bt124.2.2.2.2.2.2.2.2.2.1, bt124.2.2.2.2.2.2.2.2.2.2.1, bt124.2.2.2.2.2.2.2.2.2.2.2.1, bt124.2.2.2.2.2.2.2.2.2.2.2.2.1, bt124.2.2.2.2.2.2.2.2.2.2.2.2.2.1))) = some (r1, r2, r3, r4, r5, r6, r7, r8, r9, r10, r11, r12, r13, r14, r15, r16, r17, r18, r19, r20, r21, r22, r23, r24, r25, r26, r27, r28) := H
  have A3 := Aside0.mk A30
  clear A30
  replace H := Option.bind_eq_some_iff.mp H
  obtain ⟨⟨t124, t125, t126, t127, t128, t129, t130, t131, t132, t133, t134, t135, t136, t137, t138, t139⟩, A40, H⟩ := H
  replace H : (some (t107, t108, t109, t110, t111, t112, t113, t114, t115, t116, t117, t118, t119, t120, t124, t125, t126, t127, t128, t129, t130, t131, t132, t133, t134, t135, t136, t137)) = some (r1, r2, r3, r4, r5, r6, r7, r8, r9, r10, r11, r12, r13, r14, r15, r16, r17, r18, r19, r20, r21, r22, r23, r24, r25, r26, r27, r28) := H
  have A4 := Aside0.mk A40
  clear A40
  simp only [Option.some.injEq, Prod.mk.injEq] at H
  obtain ⟨rfl, rfl, rfl, rfl, rfl, rfl, rfl, rfl, rfl, rfl, rfl, rfl, rfl, rfl, rfl, rfl, rfl, rfl, rfl, rfl, rfl, rfl, rfl, rfl, rfl, rfl, rfl, rfl⟩ := H
  go_enter Try.func33, Try.ntmps33
  try go_wp2_with (first | ((with_reducible refine gate_dst (N := 2) rfl ?_); refine box_event ?hg (N := 2) ?hd (cs := tk14 0 0 0 0 false 0 0 0 0 0 0 0 0 0) (t := 27) ?hr ?_; (case hd => rfl); (case hg => rfl); (case hr => first | (go_simp; done) | (go_simp; rfl)); intro gb101 hg w5 hbox hb; have n0_ := aM (below_step (bq HB) hb); have n1_ := aM (hbox); have n2_ := aM ((by rw [hg]; exact (below_size (bq HB)) : w.heap.size ≤ gb101)); have n3_ := n2_; clear HB; have HB := n0_; have BK101 := n1_; have GW101 := n2_; have GE101 := n3_; clear n0_ n1_ n2_ n3_; clear hb hbox hg) | ((with_reducible refine gate_dst (N := 3) rfl ?_); refine box_event ?hg (N := 3) ?hd (cs := tk14 0 0 0 0 false 0 0 0 0 0 0 0 0 0) (t := 27) ?hr ?_; (case hd => rfl); (case hg => rfl); (case hr => first | (go_simp; done) | (go_simp; rfl)); intro gb102 hg w6 hbox hb; have n0_ := aM (blk_below (kq BK101) hb); have n1_ := aM (below_step (bq HB) hb); have n2_ := aM (hbox); have n3_ := aM ((by rw [hg]; exact (below_size (bq HB)) : w.heap.size ≤ gb102)); have n4_ := n3_; have n5_ := aM ((by rw [hg]; exact Nat.ne_of_lt (blk_lt (kq BK101)) : gb101 ≠ gb102)); have n6_ := aM (n5_.out.symm); clear BK101 HB; have BK101 := n0_; have HB := n1_; have BK102 := n2_; have GW102 := n3_; have GE102 := n4_; have NB101_102 := n5_; have NB102_101 := n6_; clear n0_ n1_ n2_ n3_ n4_ n5_ n6_; clear hb hbox hg) | ((with_reducible refine gate_callee (f := 64) rfl ?_); refine gL (some 7) Try.func64 #[.slice A0 l0.length c0] ?_; (with_reducible refine (spec_l1New.calls k _ _ l0 t103 t104 t105 w _ ?side1 ?side2 ?side3 A2.out).mono ?_); (case side1 => repeat (first | (with_reducible first | exact HB.out | apply beA | apply beD | apply bed | refine beS ?_ GE101.out | refine beS ?_ GE102.out) | exact HB.out)); (case side2 => exact HR0.out); (case side3 => exact HC0.out); rintro e w7 ⟨g106, rfl, hi, hb, hb2⟩; refine ⟨_, rfl, ?_⟩; have n0_ := aM (blk_below (g := gb101) (o := .cells (tk14 0 0 0 0 false 0 0 0 0 0 0 0 0 0) 27 (0, 0)) (kq BK101) hb2); have n1_ := aM (blk_below (g := gb102) (o := .cells (tk14 0 0 0 0 false 0 0 0 0 0 0 0 0 0) 27 (0, 0)) (kq BK102) hb2); have n2_ := aM (hb); have n3_ := aM (hi); have n4_ := aM (IsS82.ne_blk hi (blk_below (g := gb101) (o := .cells (tk14 0 0 0 0 false 0 0 0 0 0 0 0 0 0) 27 (0, 0)) (kq BK101) hb2) (by decide)); have n5_ := aM (Ne.symm (IsS82.ne_blk hi (blk_below (g := gb101) (o := .cells (tk14 0 0 0 0 false 0 0 0 0 0 0 0 0 0) 27 (0, 0)) (kq BK101) hb2) (by decide))); have n6_ := aM (IsS82.ne_blk hi (blk_below (g := gb102) (o := .cells (tk14 0 0 0 0 false 0 0 0 0 0 0 0 0 0) 27 (0, 0)) (kq BK102) hb2) (by decide)); have n7_ := aM (Ne.symm (IsS82.ne_blk hi (blk_below (g := gb102) (o := .cells (tk14 0 0 0 0 false 0 0 0 0 0 0 0 0 0) 27 (0, 0)) (kq BK102) hb2) (by decide))); clear BK101 BK102 HB; have BK101 := n0_; have BK102 := n1_; have HB := n2_; have HI106 := n3_; have NB106_101 := n4_; have NB101_106 := n5_; have NB106_102 := n6_; have NB102_106 := n7_; clear n0_ n1_ n2_ n3_ n4_ n5_ n6_ n7_; (try clear hb); (try clear hb2); (try clear hk); (try clear hi)) | ((with_reducible refine gate_callee (f := 90) rfl ?_); refine gL (some 9) Try.func90 #[.pointer (some ⟨g106, 0, none⟩)] ?_; (with_reducible refine (spec_l6Draw.calls k g106 t103 t104 t105 t107 t108 t109 t110 t111 t112 t113 t114 t115 t116 t117 t118 t119 t120 t121 t122 w _ ?side1 ?side2 A3.out).mono ?_); (case side1 => repeat (first | (with_reducible first | exact HI106.out | apply IsS82.alloc | apply IsS82.drewN | apply IsS82.drew | apply IsS82.set_1 | apply IsS82.set_2 | refine IsS82.far ?_ NB106_101.out _ | refine IsS82.far ?_ NB106_102.out _) | exact HI106.out)); (case side2 => repeat (first | (with_reducible first | exact HB.out | apply beA | apply beD | apply bed | refine beS ?_ (IsS82.ge HI106.out) | refine beS ?_ GE101.out | refine beS ?_ GE102.out) | exact HB.out)); rintro e w8 ⟨rfl, hi, hb, hk⟩; refine ⟨_, rfl, ?_⟩; have n0_ := aM (KeepBut.blk hk (g' := gb101) (o := .cells (tk14 0 0 0 0 false 0 0 0 0 0 0 0 0 0) 27 (0, 0)) (kq BK101) NB101_106.out (by simp)); have n1_ := aM (KeepBut.blk hk (g' := gb102) (o := .cells (tk14 0 0 0 0 false 0 0 0 0 0 0 0 0 0) 27 (0, 0)) (kq BK102) NB102_106.out (by simp)); have n2_ := aM (hb); have n3_ := aM (hi); clear BK101 BK102 HB HI106; have BK101 := n0_; have BK102 := n1_; have HB := n2_; have HI106 := n3_; clear n0_ n1_ n2_ n3_; (try clear hb); (try clear hb2); (try clear hk); (try clear hi)) | ((with_reducible refine gate_dst (N := 5) rfl ?_); refine box_event ?hg (N := 5) ?hd (cs := tk14 0 0 0 0 false 0 0 0 0 0 0 0 0 0) (t := 27) ?hr ?_; (case hd => rfl); (case hg => rfl); (case hr => first | (go_simp; done) | (go_simp; rfl)); intro gb123 hg w9 hbox hb; have n0_ := aM (blk_below (kq BK101) hb); have n1_ := aM (blk_below (kq BK102) hb); have n2_ := aM (IsS82.below (by repeat (first | (with_reducible first | exact HI106.out | apply IsS82.alloc | apply IsS82.drewN | apply IsS82.drew | apply IsS82.set_1 | apply IsS82.set_2 | refine IsS82.far ?_ NB106_101.out _ | refine IsS82.far ?_ NB106_102.out _) | exact HI106.out)) hb); have n3_ := aM (below_step (bqs HB (IsS82.ge HI106.out)) hb); have n4_ := aM (hbox); have n5_ := aM ((by rw [hg]; exact (below_size (bqs HB (IsS82.ge HI106.out))) : w.heap.size ≤ gb123)); have n6_ := n5_; have n7_ := aM ((by rw [hg]; exact Nat.ne_of_lt (blk_lt (kq BK101)) : gb101 ≠ gb123)); have n8_ := aM (n7_.out.symm); have n9_ := aM ((by rw [hg]; exact Nat.ne_of_lt (blk_lt (kq BK102)) : gb102 ≠ gb123)); have n10_ := aM (n9_.out.symm); have n11_ := aM ((by rw [hg]; exact Nat.ne_of_lt (IsS82.lt (show IsS82 w _ g106 t103 t121 t122 from by repeat (first | (with_reducible first | exact HI106.out | apply IsS82.alloc | apply IsS82.drewN | apply IsS82.drew | apply IsS82.set_1 | apply IsS82.set_2 | refine IsS82.far ?_ NB106_101.out _ | refine IsS82.far ?_ NB106_102.out _) | exact HI106.out))) : g106 ≠ gb123)); have n12_ := aM ((by rw [hg]; exact Nat.ne_of_gt (IsS82.lt (show IsS82 w _ g106 t103 t121 t122 from by repeat (first | (with_reducible first | exact HI106.out | apply IsS82.alloc | apply IsS82.drewN | apply IsS82.drew | apply IsS82.set_1 | apply IsS82.set_2 | refine IsS82.far ?_ NB106_101.out _ | refine IsS82.far ?_ NB106_102.out _) | exact HI106.out))) : gb123 ≠ g106)); clear BK101 BK102 HI106 HB; have BK101 := n0_; have BK102 := n1_; have HI106 := n2_; have HB := n3_; have BK123 := n4_; have GW123 := n5_; have GE123 := n6_; have NB101_123 := n7_; have NB123_101 := n8_; have NB102_123 := n9_; have NB123_102 := n10_; have NB106_123 := n11_; have NB123_106 := n12_; clear n0_ n1_ n2_ n3_ n4_ n5_ n6_ n7_ n8_ n9_ n10_ n11_ n12_; clear hb hbox hg; have hnb10 := NB123_101.out; have hnc10 := NB101_123.out; have hnb11 := NB123_102.out; have hnc11 := NB102_123.out; have hnb12 := NB123_106.out; have hnc12 := NB106_123.out; obtain ⟨_,_,_,_,_,_,_,_,_,_,_,_,_,_⟩ := cz14 BK123.out; have hfz13_0 := blk_frozen BK123.out))
  have n0_ : Aside0 (((((((((((((((w9.setCell ⟨gb123, 0, none⟩ (.int .i64 t107)).setCell ⟨gb123, 1, none⟩ (.int .i64 t108)).setCell ⟨gb123, 2, none⟩ (.int .i64 t109)).setCell ⟨gb123, 3, none⟩ (.int .i64 t110)).setCell ⟨gb123, 4, none⟩ (.bool t111)).setCell ⟨gb123, 5, none⟩ (.int .i64 t112)).setCell ⟨gb123, 6, none⟩ (.int .i64 t113)).setCell ⟨gb123, 7, none⟩ (.int .i64 t114)).setCell ⟨gb123, 8, none⟩ (.int .i64 t115)).setCell ⟨gb123, 9, none⟩ (.int .i64 t116)).setCell ⟨gb123, 10, none⟩ (.int .i64 t117)).setCell ⟨gb123, 11, none⟩ (.int .i64 t118)).setCell ⟨gb123, 12, none⟩ (.int .i64 t119)).setCell ⟨gb123, 13, none⟩ (.int .i64 t120)).heap[gb101]? = some (.cells #[.int .i64 0, .int .i64 0, .int .i64 0, .int .i64 0, .bool false, .int .i64 0, .int .i64 0, .int .i64 0, .int .i64 0, .int .i64 0, .int .i64 0, .int .i64 0, .int .i64 0, .int .i64 0] 27 (0, 0))) := ⟨by refine far14 ?_ NB101_123.out; (with_reducible repeat (first | apply bkD | apply bkd | apply bkA)); exact BK101.out⟩
  have n1_ : Aside0 (((((((((((((((w9.setCell ⟨gb123, 0, none⟩ (.int .i64 t107)).setCell ⟨gb123, 1, none⟩ (.int .i64 t108)).setCell ⟨gb123, 2, none⟩ (.int .i64 t109)).setCell ⟨gb123, 3, none⟩ (.int .i64 t110)).setCell ⟨gb123, 4, none⟩ (.bool t111)).setCell ⟨gb123, 5, none⟩ (.int .i64 t112)).setCell ⟨gb123, 6, none⟩ (.int .i64 t113)).setCell ⟨gb123, 7, none⟩ (.int .i64 t114)).setCell ⟨gb123, 8, none⟩ (.int .i64 t115)).setCell ⟨gb123, 9, none⟩ (.int .i64 t116)).setCell ⟨gb123, 10, none⟩ (.int .i64 t117)).setCell ⟨gb123, 11, none⟩ (.int .i64 t118)).setCell ⟨gb123, 12, none⟩ (.int .i64 t119)).setCell ⟨gb123, 13, none⟩ (.int .i64 t120)).heap[gb102]? = some (.cells #[.int .i64 0, .int .i64 0, .int .i64 0, .int .i64 0, .bool false, .int .i64 0, .int .i64 0, .int .i64 0, .int .i64 0, .int .i64 0, .int .i64 0, .int .i64 0, .int .i64 0, .int .i64 0] 27 (0, 0))) := ⟨by refine far14 ?_ NB102_123.out; (with_reducible repeat (first | apply bkD | apply bkd | apply bkA)); exact BK102.out⟩
  have n2_ : Aside0 (((((((((((((((w9.setCell ⟨gb123, 0, none⟩ (.int .i64 t107)).setCell ⟨gb123, 1, none⟩ (.int .i64 t108)).setCell ⟨gb123, 2, none⟩ (.int .i64 t109)).setCell ⟨gb123, 3, none⟩ (.int .i64 t110)).setCell ⟨gb123, 4, none⟩ (.bool t111)).setCell ⟨gb123, 5, none⟩ (.int .i64 t112)).setCell ⟨gb123, 6, none⟩ (.int .i64 t113)).setCell ⟨gb123, 7, none⟩ (.int .i64 t114)).setCell ⟨gb123, 8, none⟩ (.int .i64 t115)).setCell ⟨gb123, 9, none⟩ (.int .i64 t116)).setCell ⟨gb123, 10, none⟩ (.int .i64 t117)).setCell ⟨gb123, 11, none⟩ (.int .i64 t118)).setCell ⟨gb123, 12, none⟩ (.int .i64 t119)).setCell ⟨gb123, 13, none⟩ (.int .i64 t120)).heap[gb123]? = some (.cells #[.int .i64 t107, .int .i64 t108, .int .i64 t109, .int .i64 t110, .bool t111, .int .i64 t112, .int .i64 t113, .int .i64 t114, .int .i64 t115, .int .i64 t116, .int .i64 t117, .int .i64 t118, .int .i64 t119, .int .i64 t120] 27 (0, 0))) := ⟨by refine put14 (cs := tk14 0 0 0 0 false 0 0 0 0 0 0 0 0 0) ?_; (with_reducible repeat (first | apply bkD | apply bkd | apply bkA)); exact BK123.out⟩
  have n3_ : Aside0 (IsS82 w ((((((((((((((w9.setCell ⟨gb123, 0, none⟩ (.int .i64 t107)).setCell ⟨gb123, 1, none⟩ (.int .i64 t108)).setCell ⟨gb123, 2, none⟩ (.int .i64 t109)).setCell ⟨gb123, 3, none⟩ (.int .i64 t110)).setCell ⟨gb123, 4, none⟩ (.bool t111)).setCell ⟨gb123, 5, none⟩ (.int .i64 t112)).setCell ⟨gb123, 6, none⟩ (.int .i64 t113)).setCell ⟨gb123, 7, none⟩ (.int .i64 t114)).setCell ⟨gb123, 8, none⟩ (.int .i64 t115)).setCell ⟨gb123, 9, none⟩ (.int .i64 t116)).setCell ⟨gb123, 10, none⟩ (.int .i64 t117)).setCell ⟨gb123, 11, none⟩ (.int .i64 t118)).setCell ⟨gb123, 12, none⟩ (.int .i64 t119)).setCell ⟨gb123, 13, none⟩ (.int .i64 t120)) g106 t103 t121 t122) := ⟨by repeat (first | (with_reducible first | exact HI106.out | apply IsS82.alloc | apply IsS82.drewN | apply IsS82.drew | apply IsS82.set_1 | apply IsS82.set_2 | refine IsS82.far ?_ NB106_101.out _ | refine IsS82.far ?_ NB106_102.out _ | refine IsS82.far ?_ NB106_123.out _) | exact HI106.out)⟩
  have n4_ : Aside0 (Below w.heap.size w ((((((((((((((w9.setCell ⟨gb123, 0, none⟩ (.int .i64 t107)).setCell ⟨gb123, 1, none⟩ (.int .i64 t108)).setCell ⟨gb123, 2, none⟩ (.int .i64 t109)).setCell ⟨gb123, 3, none⟩ (.int .i64 t110)).setCell ⟨gb123, 4, none⟩ (.bool t111)).setCell ⟨gb123, 5, none⟩ (.int .i64 t112)).setCell ⟨gb123, 6, none⟩ (.int .i64 t113)).setCell ⟨gb123, 7, none⟩ (.int .i64 t114)).setCell ⟨gb123, 8, none⟩ (.int .i64 t115)).setCell ⟨gb123, 9, none⟩ (.int .i64 t116)).setCell ⟨gb123, 10, none⟩ (.int .i64 t117)).setCell ⟨gb123, 11, none⟩ (.int .i64 t118)).setCell ⟨gb123, 12, none⟩ (.int .i64 t119)).setCell ⟨gb123, 13, none⟩ (.int .i64 t120))) := ⟨bqs HB (IsS82.ge HI106.out)⟩
  (try clear BK101)
  (try clear BK102)
  (try clear BK123)
  (try clear HI106)
  (try clear HB)
  generalize ((((((((((((((w9.setCell ⟨gb123, 0, none⟩ (.int .i64 t107)).setCell ⟨gb123, 1, none⟩ (.int .i64 t108)).setCell ⟨gb123, 2, none⟩ (.int .i64 t109)).setCell ⟨gb123, 3, none⟩ (.int .i64 t110)).setCell ⟨gb123, 4, none⟩ (.bool t111)).setCell ⟨gb123, 5, none⟩ (.int .i64 t112)).setCell ⟨gb123, 6, none⟩ (.int .i64 t113)).setCell ⟨gb123, 7, none⟩ (.int .i64 t114)).setCell ⟨gb123, 8, none⟩ (.int .i64 t115)).setCell ⟨gb123, 9, none⟩ (.int .i64 t116)).setCell ⟨gb123, 10, none⟩ (.int .i64 t117)).setCell ⟨gb123, 11, none⟩ (.int .i64 t118)).setCell ⟨gb123, 12, none⟩ (.int .i64 t119)).setCell ⟨gb123, 13, none⟩ (.int .i64 t120)) = w14 at n0_ n1_ n2_ n3_ n4_ ⊢
  have BK101 := n0_
  have BK102 := n1_
  have BK123 := n2_
  have HI106 := n3_
  have HB := n4_
  clear n0_ n1_ n2_ n3_ n4_
  have n0_ := aM (blk_drew BK101.out)
  have n1_ := aM (blk_drew BK102.out)
  have n2_ := aM (blk_drew BK123.out)
  have n3_ := aM (IsS82.drew HI106.out)
  have n4_ := aM (below_drew1 HB.out)
  clear BK101 BK102 BK123 HI106 HB
  have BK101 := n0_
  have BK102 := n1_
  have BK123 := n2_
  have HI106 := n3_
  have HB := n4_
  clear n0_ n1_ n2_ n3_ n4_
  refine start_ (n := 5) (S := fun w' => cb14 w' gb123 (.int .i64 t107) (.int .i64 t108) (.int .i64 t109) (.int .i64 t110) (.bool t111) (.int .i64 t112) (.int .i64 t113) (.int .i64 t114) (.int .i64 t115) (.int .i64 t116) (.int .i64 t117) (.int .i64 t118) (.int .i64 t119) (.int .i64 t120)) (ds := []) #[false, false, false, false, false] (by kernel_rfl) rfl rfl ⟨(blk_cell BK123.out 0).trans rfl, (blk_cell BK123.out 1).trans rfl, (blk_cell BK123.out 2).trans rfl, (blk_cell BK123.out 3).trans rfl, (blk_cell BK123.out 4).trans rfl, (blk_cell BK123.out 5).trans rfl, (blk_cell BK123.out 6).trans rfl, (blk_cell BK123.out 7).trans rfl, (blk_cell BK123.out 8).trans rfl, (blk_cell BK123.out 9).trans rfl, (blk_cell BK123.out 10).trans rfl, (blk_cell BK123.out 11).trans rfl, (blk_cell BK123.out 12).trans rfl, (blk_cell BK123.out 13).trans rfl⟩ (fun hHeld => ?_)
  generalize w14.drew = w15 at BK101 BK102 BK123 HI106 HB hHeld ⊢
  refine pQ (i := 1) (N := some 11) #[false, true, false, false, false] (by kernel_rfl) ?_
  refine tQ (i := 0) (N := some 10) #[true, true, false, false, false] (by kernel_rfl) hHeld ?_
  refine one_ (i := 2) (N := some 12) #[true, true, true, false, false] rfl rfl (by kernel_rfl) (by decide) (fun K hK => ?_)
  refine goes_ Try.func90 (by kernel_rfl) rfl #[.pointer (some ⟨g106, 0, none⟩)] (by rfl) rfl rfl (by (try simp only [List.map_toArray, List.map_cons, List.map_nil]); first | done | rfl | (simp only [List.length_drop, List.length_take]; rfl)) ?_
  with_reducible refine (spec_l6Draw.calls k g106 t103 t121 t122 t124 t125 t126 t127 t128 t129 t130 t131 t132 t133 t134 t135 t136 t137 t138 t139 w _ ?side1 ?side2 A4.out).mono ?_
  (case side1 => repeat (first | (with_reducible first | exact HI106.out | apply IsS82.alloc | apply IsS82.drewN | apply IsS82.drew | apply IsS82.set_1 | apply IsS82.set_2 | refine IsS82.far ?_ NB106_101.out _ | refine IsS82.far ?_ NB106_102.out _ | refine IsS82.far ?_ NB106_123.out _) | exact HI106.out))
  (case side2 => repeat (first | (with_reducible first | exact HB.out | apply beA | apply beD | apply bed | refine beS ?_ (IsS82.ge HI106.out) | refine beS ?_ GE101.out | refine beS ?_ GE102.out | refine beS ?_ GE123.out) | exact HB.out))
  rintro e w16 ⟨rfl, hi, hb, hk⟩
  refine ⟨_, rfl, ?_⟩
  have n0_ := aM (KeepBut.blk hk (g' := gb101) (o := .cells (tk14 0 0 0 0 false 0 0 0 0 0 0 0 0 0) 27 (0, 0)) (kq BK101) NB101_106.out (by simp))
  have n1_ := aM (KeepBut.blk hk (g' := gb102) (o := .cells (tk14 0 0 0 0 false 0 0 0 0 0 0 0 0 0) 27 (0, 0)) (kq BK102) NB102_106.out (by simp))
  have n2_ := aM (KeepBut.blk hk (g' := gb123) (o := .cells (tk14 t107 t108 t109 t110 t111 t112 t113 t114 t115 t116 t117 t118 t119 t120) 27 (0, 0)) (kq BK123) NB123_106.out (by simp))
  have n3_ := aM (hb)
  have n4_ := aM (hi)
  clear BK101 BK102 BK123 HB HI106
  have BK101 := n0_
  have BK102 := n1_
  have BK123 := n2_
  have HB := n3_
  have HI106 := n4_
  clear n0_ n1_ n2_ n3_ n4_
  (try clear hb)
  (try clear hb2)
  (try clear hk)
  (try clear hi)
  refine hK.out _ _ ⟨(blk_cell BK123.out 0).trans rfl, (blk_cell BK123.out 1).trans rfl, (blk_cell BK123.out 2).trans rfl, (blk_cell BK123.out 3).trans rfl, (blk_cell BK123.out 4).trans rfl, (blk_cell BK123.out 5).trans rfl, (blk_cell BK123.out 6).trans rfl, (blk_cell BK123.out 7).trans rfl, (blk_cell BK123.out 8).trans rfl, (blk_cell BK123.out 9).trans rfl, (blk_cell BK123.out 10).trans rfl, (blk_cell BK123.out 11).trans rfl, (blk_cell BK123.out 12).trans rfl, (blk_cell BK123.out 13).trans rfl⟩ (fun hHeld => ?_)
  clear hK K
  refine nQ (N := some 12) ?_
  refine one_ (i := 3) (N := none) #[true, true, true, true, false] rfl rfl (by kernel_rfl) (by decide) (fun K hK => ?_)
  have hs17 : w16.cell? ⟨gb101, 0, none⟩ = some (.int .i64 0) := (blk_cell BK101.out 0).trans rfl
  have hfs17 := blk_frozen BK101.out 0
  have hns17_1 := NB102_101.out
  have hns17_2 := NB123_101.out
  have hms17_1 := NB101_102.out
  have hms17_2 := NB101_123.out
  have hs18 : w16.cell? ⟨gb101, 1, none⟩ = some (.int .i64 0) := (blk_cell BK101.out 1).trans rfl
  have hfs18 := blk_frozen BK101.out 1
  have hns18_1 := NB102_101.out
  have hns18_2 := NB123_101.out
  have hms18_1 := NB101_102.out
  have hms18_2 := NB101_123.out
  have hs19 : w16.cell? ⟨gb101, 2, none⟩ = some (.int .i64 0) := (blk_cell BK101.out 2).trans rfl
  have hfs19 := blk_frozen BK101.out 2
  have hns19_1 := NB102_101.out
  have hns19_2 := NB123_101.out
  have hms19_1 := NB101_102.out
  have hms19_2 := NB101_123.out
  have hs20 : w16.cell? ⟨gb101, 3, none⟩ = some (.int .i64 0) := (blk_cell BK101.out 3).trans rfl
  have hfs20 := blk_frozen BK101.out 3
  have hns20_1 := NB102_101.out
  have hns20_2 := NB123_101.out
  have hms20_1 := NB101_102.out
  have hms20_2 := NB101_123.out
  have hs21 : w16.cell? ⟨gb101, 4, none⟩ = some (.bool false) := (blk_cell BK101.out 4).trans rfl
  have hfs21 := blk_frozen BK101.out 4
  have hns21_1 := NB102_101.out
  have hns21_2 := NB123_101.out
  have hms21_1 := NB101_102.out
  have hms21_2 := NB101_123.out
  have hs22 : w16.cell? ⟨gb101, 5, none⟩ = some (.int .i64 0) := (blk_cell BK101.out 5).trans rfl
  have hfs22 := blk_frozen BK101.out 5
  have hns22_1 := NB102_101.out
  have hns22_2 := NB123_101.out
  have hms22_1 := NB101_102.out
  have hms22_2 := NB101_123.out
  have hs23 : w16.cell? ⟨gb101, 6, none⟩ = some (.int .i64 0) := (blk_cell BK101.out 6).trans rfl
  have hfs23 := blk_frozen BK101.out 6
  have hns23_1 := NB102_101.out
  have hns23_2 := NB123_101.out
  have hms23_1 := NB101_102.out
  have hms23_2 := NB101_123.out
  have hs24 : w16.cell? ⟨gb101, 7, none⟩ = some (.int .i64 0) := (blk_cell BK101.out 7).trans rfl
  have hfs24 := blk_frozen BK101.out 7
  have hns24_1 := NB102_101.out
  have hns24_2 := NB123_101.out
  have hms24_1 := NB101_102.out
  have hms24_2 := NB101_123.out
  have hs25 : w16.cell? ⟨gb101, 8, none⟩ = some (.int .i64 0) := (blk_cell BK101.out 8).trans rfl
  have hfs25 := blk_frozen BK101.out 8
  have hns25_1 := NB102_101.out
  have hns25_2 := NB123_101.out
  have hms25_1 := NB101_102.out
  have hms25_2 := NB101_123.out
  have hs26 : w16.cell? ⟨gb101, 9, none⟩ = some (.int .i64 0) := (blk_cell BK101.out 9).trans rfl
  have hfs26 := blk_frozen BK101.out 9
  have hns26_1 := NB102_101.out
  have hns26_2 := NB123_101.out
  have hms26_1 := NB101_102.out
  have hms26_2 := NB101_123.out
  have hs27 : w16.cell? ⟨gb101, 10, none⟩ = some (.int .i64 0) := (blk_cell BK101.out 10).trans rfl
  have hfs27 := blk_frozen BK101.out 10
  have hns27_1 := NB102_101.out
  have hns27_2 := NB123_101.out
  have hms27_1 := NB101_102.out
  have hms27_2 := NB101_123.out
  have hs28 : w16.cell? ⟨gb101, 11, none⟩ = some (.int .i64 0) := (blk_cell BK101.out 11).trans rfl
  have hfs28 := blk_frozen BK101.out 11
  have hns28_1 := NB102_101.out
  have hns28_2 := NB123_101.out
  have hms28_1 := NB101_102.out
  have hms28_2 := NB101_123.out
  have hs29 : w16.cell? ⟨gb101, 12, none⟩ = some (.int .i64 0) := (blk_cell BK101.out 12).trans rfl
  have hfs29 := blk_frozen BK101.out 12
  have hns29_1 := NB102_101.out
  have hns29_2 := NB123_101.out
  have hms29_1 := NB101_102.out
  have hms29_2 := NB101_123.out
  have hs30 : w16.cell? ⟨gb101, 13, none⟩ = some (.int .i64 0) := (blk_cell BK101.out 13).trans rfl
  have hfs30 := blk_frozen BK101.out 13
  have hns30_1 := NB102_101.out
  have hns30_2 := NB123_101.out
  have hms30_1 := NB101_102.out
  have hms30_2 := NB101_123.out
  refine skip_ (w1 := ?_) (by rfl) rfl ?_ ?_
  rotate_left
  · go_simp
    rfl
  refine hK.out _ _ ⟨(by (iterate 14 refine (cell_far (p := ⟨gb101, _, none⟩) NB123_101.out _).trans ?_); exact hHeld.1), (by (iterate 14 refine (cell_far (p := ⟨gb101, _, none⟩) NB123_101.out _).trans ?_); exact hHeld.2.1), (by (iterate 14 refine (cell_far (p := ⟨gb101, _, none⟩) NB123_101.out _).trans ?_); exact hHeld.2.2.1), (by (iterate 14 refine (cell_far (p := ⟨gb101, _, none⟩) NB123_101.out _).trans ?_); exact hHeld.2.2.2.1), (by (iterate 14 refine (cell_far (p := ⟨gb101, _, none⟩) NB123_101.out _).trans ?_); exact hHeld.2.2.2.2.1), (by (iterate 14 refine (cell_far (p := ⟨gb101, _, none⟩) NB123_101.out _).trans ?_); exact hHeld.2.2.2.2.2.1), (by (iterate 14 refine (cell_far (p := ⟨gb101, _, none⟩) NB123_101.out _).trans ?_); exact hHeld.2.2.2.2.2.2.1), (by (iterate 14 refine (cell_far (p := ⟨gb101, _, none⟩) NB123_101.out _).trans ?_); exact hHeld.2.2.2.2.2.2.2.1), (by (iterate 14 refine (cell_far (p := ⟨gb101, _, none⟩) NB123_101.out _).trans ?_); exact hHeld.2.2.2.2.2.2.2.2.1), (by (iterate 14 refine (cell_far (p := ⟨gb101, _, none⟩) NB123_101.out _).trans ?_); exact hHeld.2.2.2.2.2.2.2.2.2.1), (by (iterate 14 refine (cell_far (p := ⟨gb101, _, none⟩) NB123_101.out _).trans ?_); exact hHeld.2.2.2.2.2.2.2.2.2.2.1), (by (iterate 14 refine (cell_far (p := ⟨gb101, _, none⟩) NB123_101.out _).trans ?_); exact hHeld.2.2.2.2.2.2.2.2.2.2.2.1), (by (iterate 14 refine (cell_far (p := ⟨gb101, _, none⟩) NB123_101.out _).trans ?_); exact hHeld.2.2.2.2.2.2.2.2.2.2.2.2.1), (by (iterate 14 refine (cell_far (p := ⟨gb101, _, none⟩) NB123_101.out _).trans ?_); exact hHeld.2.2.2.2.2.2.2.2.2.2.2.2.2)⟩ (fun hHeld => ?_)
  clear hK K
  clear hs17 hfs17 hns17_1 hns17_2 hms17_1 hms17_2 hs18 hfs18 hns18_1 hns18_2 hms18_1 hms18_2 hs19 hfs19 hns19_1 hns19_2 hms19_1 hms19_2 hs20 hfs20 hns20_1 hns20_2 hms20_1 hms20_2 hs21 hfs21 hns21_1 hns21_2 hms21_1 hms21_2 hs22 hfs22 hns22_1 hns22_2 hms22_1 hms22_2 hs23 hfs23 hns23_1 hns23_2 hms23_1 hms23_2 hs24 hfs24 hns24_1 hns24_2 hms24_1 hms24_2 hs25 hfs25 hns25_1 hns25_2 hms25_1 hms25_2 hs26 hfs26 hns26_1 hns26_2 hms26_1 hms26_2 hs27 hfs27 hns27_1 hns27_2 hms27_1 hms27_2 hs28 hfs28 hns28_1 hns28_2 hms28_1 hms28_2 hs29 hfs29 hns29_1 hns29_2 hms29_1 hms29_2 hs30 hfs30 hns30_1 hns30_2 hms30_1 hms30_2
  have n0_ : Aside0 (((((((((((((((w16.setCell ⟨gb101, 0, none⟩ (.int .i64 t107)).setCell ⟨gb101, 1, none⟩ (.int .i64 t108)).setCell ⟨gb101, 2, none⟩ (.int .i64 t109)).setCell ⟨gb101, 3, none⟩ (.int .i64 t110)).setCell ⟨gb101, 4, none⟩ (.bool t111)).setCell ⟨gb101, 5, none⟩ (.int .i64 t112)).setCell ⟨gb101, 6, none⟩ (.int .i64 t113)).setCell ⟨gb101, 7, none⟩ (.int .i64 t114)).setCell ⟨gb101, 8, none⟩ (.int .i64 t115)).setCell ⟨gb101, 9, none⟩ (.int .i64 t116)).setCell ⟨gb101, 10, none⟩ (.int .i64 t117)).setCell ⟨gb101, 11, none⟩ (.int .i64 t118)).setCell ⟨gb101, 12, none⟩ (.int .i64 t119)).setCell ⟨gb101, 13, none⟩ (.int .i64 t120)).heap[gb101]? = some (.cells (tk14 t107 t108 t109 t110 t111 t112 t113 t114 t115 t116 t117 t118 t119 t120) 27 (0, 0))) := ⟨put14 BK101.out⟩
  have n1_ : Aside0 (((((((((((((((w16.setCell ⟨gb101, 0, none⟩ (.int .i64 t107)).setCell ⟨gb101, 1, none⟩ (.int .i64 t108)).setCell ⟨gb101, 2, none⟩ (.int .i64 t109)).setCell ⟨gb101, 3, none⟩ (.int .i64 t110)).setCell ⟨gb101, 4, none⟩ (.bool t111)).setCell ⟨gb101, 5, none⟩ (.int .i64 t112)).setCell ⟨gb101, 6, none⟩ (.int .i64 t113)).setCell ⟨gb101, 7, none⟩ (.int .i64 t114)).setCell ⟨gb101, 8, none⟩ (.int .i64 t115)).setCell ⟨gb101, 9, none⟩ (.int .i64 t116)).setCell ⟨gb101, 10, none⟩ (.int .i64 t117)).setCell ⟨gb101, 11, none⟩ (.int .i64 t118)).setCell ⟨gb101, 12, none⟩ (.int .i64 t119)).setCell ⟨gb101, 13, none⟩ (.int .i64 t120)).heap[gb102]? = some (.cells (tk14 0 0 0 0 false 0 0 0 0 0 0 0 0 0) 27 (0, 0))) := ⟨far14 BK102.out NB102_101.out⟩
  have n2_ : Aside0 (((((((((((((((w16.setCell ⟨gb101, 0, none⟩ (.int .i64 t107)).setCell ⟨gb101, 1, none⟩ (.int .i64 t108)).setCell ⟨gb101, 2, none⟩ (.int .i64 t109)).setCell ⟨gb101, 3, none⟩ (.int .i64 t110)).setCell ⟨gb101, 4, none⟩ (.bool t111)).setCell ⟨gb101, 5, none⟩ (.int .i64 t112)).setCell ⟨gb101, 6, none⟩ (.int .i64 t113)).setCell ⟨gb101, 7, none⟩ (.int .i64 t114)).setCell ⟨gb101, 8, none⟩ (.int .i64 t115)).setCell ⟨gb101, 9, none⟩ (.int .i64 t116)).setCell ⟨gb101, 10, none⟩ (.int .i64 t117)).setCell ⟨gb101, 11, none⟩ (.int .i64 t118)).setCell ⟨gb101, 12, none⟩ (.int .i64 t119)).setCell ⟨gb101, 13, none⟩ (.int .i64 t120)).heap[gb123]? = some (.cells (tk14 t107 t108 t109 t110 t111 t112 t113 t114 t115 t116 t117 t118 t119 t120) 27 (0, 0))) := ⟨far14 BK123.out NB123_101.out⟩
  have n3_ : Aside0 (Below w.heap.size w ((((((((((((((w16.setCell ⟨gb101, 0, none⟩ (.int .i64 t107)).setCell ⟨gb101, 1, none⟩ (.int .i64 t108)).setCell ⟨gb101, 2, none⟩ (.int .i64 t109)).setCell ⟨gb101, 3, none⟩ (.int .i64 t110)).setCell ⟨gb101, 4, none⟩ (.bool t111)).setCell ⟨gb101, 5, none⟩ (.int .i64 t112)).setCell ⟨gb101, 6, none⟩ (.int .i64 t113)).setCell ⟨gb101, 7, none⟩ (.int .i64 t114)).setCell ⟨gb101, 8, none⟩ (.int .i64 t115)).setCell ⟨gb101, 9, none⟩ (.int .i64 t116)).setCell ⟨gb101, 10, none⟩ (.int .i64 t117)).setCell ⟨gb101, 11, none⟩ (.int .i64 t118)).setCell ⟨gb101, 12, none⟩ (.int .i64 t119)).setCell ⟨gb101, 13, none⟩ (.int .i64 t120))) := ⟨be14 HB.out GE101.out⟩
  clear BK101 BK102 BK123 HB
  generalize ((((((((((((((w16.setCell ⟨gb101, 0, none⟩ (.int .i64 t107)).setCell ⟨gb101, 1, none⟩ (.int .i64 t108)).setCell ⟨gb101, 2, none⟩ (.int .i64 t109)).setCell ⟨gb101, 3, none⟩ (.int .i64 t110)).setCell ⟨gb101, 4, none⟩ (.bool t111)).setCell ⟨gb101, 5, none⟩ (.int .i64 t112)).setCell ⟨gb101, 6, none⟩ (.int .i64 t113)).setCell ⟨gb101, 7, none⟩ (.int .i64 t114)).setCell ⟨gb101, 8, none⟩ (.int .i64 t115)).setCell ⟨gb101, 9, none⟩ (.int .i64 t116)).setCell ⟨gb101, 10, none⟩ (.int .i64 t117)).setCell ⟨gb101, 11, none⟩ (.int .i64 t118)).setCell ⟨gb101, 12, none⟩ (.int .i64 t119)).setCell ⟨gb101, 13, none⟩ (.int .i64 t120)) = w99 at n0_ n1_ n2_ n3_ hHeld ⊢
  have BK101 := n0_
  have BK102 := n1_
  have BK123 := n2_
  have HB := n3_
  clear n0_ n1_ n2_ n3_
  refine one_ (i := 4) (N := none) #[true, true, true, true, true] rfl rfl (by kernel_rfl) (by decide) (fun K hK => ?_)
  have hs31 : w99.cell? ⟨gb102, 0, none⟩ = some (.int .i64 0) := (blk_cell BK102.out 0).trans rfl
  have hfs31 := blk_frozen BK102.out 0
  have hns31_0 := NB101_102.out
  have hns31_2 := NB123_102.out
  have hms31_0 := NB102_101.out
  have hms31_2 := NB102_123.out
  have hs32 : w99.cell? ⟨gb102, 1, none⟩ = some (.int .i64 0) := (blk_cell BK102.out 1).trans rfl
  have hfs32 := blk_frozen BK102.out 1
  have hns32_0 := NB101_102.out
  have hns32_2 := NB123_102.out
  have hms32_0 := NB102_101.out
  have hms32_2 := NB102_123.out
  have hs33 : w99.cell? ⟨gb102, 2, none⟩ = some (.int .i64 0) := (blk_cell BK102.out 2).trans rfl
  have hfs33 := blk_frozen BK102.out 2
  have hns33_0 := NB101_102.out
  have hns33_2 := NB123_102.out
  have hms33_0 := NB102_101.out
  have hms33_2 := NB102_123.out
  have hs34 : w99.cell? ⟨gb102, 3, none⟩ = some (.int .i64 0) := (blk_cell BK102.out 3).trans rfl
  have hfs34 := blk_frozen BK102.out 3
  have hns34_0 := NB101_102.out
  have hns34_2 := NB123_102.out
  have hms34_0 := NB102_101.out
  have hms34_2 := NB102_123.out
  have hs35 : w99.cell? ⟨gb102, 4, none⟩ = some (.bool false) := (blk_cell BK102.out 4).trans rfl
  have hfs35 := blk_frozen BK102.out 4
  have hns35_0 := NB101_102.out
  have hns35_2 := NB123_102.out
  have hms35_0 := NB102_101.out
  have hms35_2 := NB102_123.out
  have hs36 : w99.cell? ⟨gb102, 5, none⟩ = some (.int .i64 0) := (blk_cell BK102.out 5).trans rfl
  have hfs36 := blk_frozen BK102.out 5
  have hns36_0 := NB101_102.out
  have hns36_2 := NB123_102.out
  have hms36_0 := NB102_101.out
  have hms36_2 := NB102_123.out
  have hs37 : w99.cell? ⟨gb102, 6, none⟩ = some (.int .i64 0) := (blk_cell BK102.out 6).trans rfl
  have hfs37 := blk_frozen BK102.out 6
  have hns37_0 := NB101_102.out
  have hns37_2 := NB123_102.out
  have hms37_0 := NB102_101.out
  have hms37_2 := NB102_123.out
  have hs38 : w99.cell? ⟨gb102, 7, none⟩ = some (.int .i64 0) := (blk_cell BK102.out 7).trans rfl
  have hfs38 := blk_frozen BK102.out 7
  have hns38_0 := NB101_102.out
  have hns38_2 := NB123_102.out
  have hms38_0 := NB102_101.out
  have hms38_2 := NB102_123.out
  have hs39 : w99.cell? ⟨gb102, 8, none⟩ = some (.int .i64 0) := (blk_cell BK102.out 8).trans rfl
  have hfs39 := blk_frozen BK102.out 8
  have hns39_0 := NB101_102.out
  have hns39_2 := NB123_102.out
  have hms39_0 := NB102_101.out
  have hms39_2 := NB102_123.out
  have hs40 : w99.cell? ⟨gb102, 9, none⟩ = some (.int .i64 0) := (blk_cell BK102.out 9).trans rfl
  have hfs40 := blk_frozen BK102.out 9
  have hns40_0 := NB101_102.out
  have hns40_2 := NB123_102.out
  have hms40_0 := NB102_101.out
  have hms40_2 := NB102_123.out
  have hs41 : w99.cell? ⟨gb102, 10, none⟩ = some (.int .i64 0) := (blk_cell BK102.out 10).trans rfl
  have hfs41 := blk_frozen BK102.out 10
  have hns41_0 := NB101_102.out
  have hns41_2 := NB123_102.out
  have hms41_0 := NB102_101.out
  have hms41_2 := NB102_123.out
  have hs42 : w99.cell? ⟨gb102, 11, none⟩ = some (.int .i64 0) := (blk_cell BK102.out 11).trans rfl
  have hfs42 := blk_frozen BK102.out 11
  have hns42_0 := NB101_102.out
  have hns42_2 := NB123_102.out
  have hms42_0 := NB102_101.out
  have hms42_2 := NB102_123.out
  have hs43 : w99.cell? ⟨gb102, 12, none⟩ = some (.int .i64 0) := (blk_cell BK102.out 12).trans rfl
  have hfs43 := blk_frozen BK102.out 12
  have hns43_0 := NB101_102.out
  have hns43_2 := NB123_102.out
  have hms43_0 := NB102_101.out
  have hms43_2 := NB102_123.out
  have hs44 : w99.cell? ⟨gb102, 13, none⟩ = some (.int .i64 0) := (blk_cell BK102.out 13).trans rfl
  have hfs44 := blk_frozen BK102.out 13
  have hns44_0 := NB101_102.out
  have hns44_2 := NB123_102.out
  have hms44_0 := NB102_101.out
  have hms44_2 := NB102_123.out
  refine skip_ (w1 := ?_) (by rfl) rfl ?_ ?_
  rotate_left
  · go_simp
    rfl
  refine hK.out _ _ ⟨(by (iterate 14 refine (cell_far (p := ⟨gb102, _, none⟩) NB123_102.out _).trans ?_); exact hHeld.1), (by (iterate 14 refine (cell_far (p := ⟨gb102, _, none⟩) NB123_102.out _).trans ?_); exact hHeld.2.1), (by (iterate 14 refine (cell_far (p := ⟨gb102, _, none⟩) NB123_102.out _).trans ?_); exact hHeld.2.2.1), (by (iterate 14 refine (cell_far (p := ⟨gb102, _, none⟩) NB123_102.out _).trans ?_); exact hHeld.2.2.2.1), (by (iterate 14 refine (cell_far (p := ⟨gb102, _, none⟩) NB123_102.out _).trans ?_); exact hHeld.2.2.2.2.1), (by (iterate 14 refine (cell_far (p := ⟨gb102, _, none⟩) NB123_102.out _).trans ?_); exact hHeld.2.2.2.2.2.1), (by (iterate 14 refine (cell_far (p := ⟨gb102, _, none⟩) NB123_102.out _).trans ?_); exact hHeld.2.2.2.2.2.2.1), (by (iterate 14 refine (cell_far (p := ⟨gb102, _, none⟩) NB123_102.out _).trans ?_); exact hHeld.2.2.2.2.2.2.2.1), (by (iterate 14 refine (cell_far (p := ⟨gb102, _, none⟩) NB123_102.out _).trans ?_); exact hHeld.2.2.2.2.2.2.2.2.1), (by (iterate 14 refine (cell_far (p := ⟨gb102, _, none⟩) NB123_102.out _).trans ?_); exact hHeld.2.2.2.2.2.2.2.2.2.1), (by (iterate 14 refine (cell_far (p := ⟨gb102, _, none⟩) NB123_102.out _).trans ?_); exact hHeld.2.2.2.2.2.2.2.2.2.2.1), (by (iterate 14 refine (cell_far (p := ⟨gb102, _, none⟩) NB123_102.out _).trans ?_); exact hHeld.2.2.2.2.2.2.2.2.2.2.2.1), (by (iterate 14 refine (cell_far (p := ⟨gb102, _, none⟩) NB123_102.out _).trans ?_); exact hHeld.2.2.2.2.2.2.2.2.2.2.2.2.1), (by (iterate 14 refine (cell_far (p := ⟨gb102, _, none⟩) NB123_102.out _).trans ?_); exact hHeld.2.2.2.2.2.2.2.2.2.2.2.2.2)⟩ (fun hHeld => ?_)
  clear hK K
  refine done_ (by kernel_rfl) ?_
  try go_wp2
  refine bodyPost_ret (results_cc rfl _ _ gb101 gb102 27 27 #[.int .i64 t107, .int .i64 t108, .int .i64 t109, .int .i64 t110, .bool t111, .int .i64 t112, .int .i64 t113, .int .i64 t114, .int .i64 t115, .int .i64 t116, .int .i64 t117, .int .i64 t118, .int .i64 t119, .int .i64 t120] #[.int .i64 t124, .int .i64 t125, .int .i64 t126, .int .i64 t127, .bool t128, .int .i64 t129, .int .i64 t130, .int .i64 t131, .int .i64 t132, .int .i64 t133, .int .i64 t134, .int .i64 t135, .int .i64 t136, .int .i64 t137] (0, 0) (0, 0) _ _ rfl (far14 BK101.out NB101_102.out) Try.underlying27 rfl (by kernel_rfl) rfl (put14 BK102.out) Try.underlying27 rfl (by kernel_rfl)) rfl ?_
  exact ⟨by first | rfl | (simp <;> rfl) | (simp [*] <;> rfl), bqs HB (IsS82.ge HI106.out)⟩

end Go.Proofs.Ytphkgmdbdnjmbaa.Print
