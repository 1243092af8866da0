/- Go functions as plain Lean functions, and that the Go code answers just as these, wherever they answer. Conditions: those of each theorem. Written by a program of this session (wip/patch.py). -/
import Derived.Test.YtphkgmdbdnjmbaaPrint0
import Derived.Test.YtphkgmdbdnjmbaaPrintLawsBig
import Derived.Test.YtphkgmdbdnjmbaaPrintSpecL5Draw
namespace Go.Proofs.Ytphkgmdbdnjmbaa.Print
open Go.RowKit Go.Proofs.Ytphkgmdbdnjmbaa.Base Go.Proofs.YtphkgmdbdnjmbaaW.PrintWords Go.Proofs.YtphkgmdbdnjmbaaW.PrintLast Go.Proofs.YtphkgmdbdnjmbaaW.PrintMore
attribute [local go_sem] max2_int min2_int max_two min_two max_three min_three max_four min_four   -- for this text's walks alone
set_option linter.unusedVariables false
set_option linter.unusedSimpArgs false

/-! ### spec_DrawFixedSpend: function 27 -/
def spec_DrawFixedSpend.f (k : Nat) (l0 : List Int) : Option (Int × Int × Int × Int × Bool × Int × Int × Int × Int × Int × Int × Int × Int × Int × Int) := (spec_l1New.f k l0).bind fun bt102 => ((spec_l5Draw.f k bt102.1 bt102.2.1 bt102.2.2).bind fun bt106 => ((spec_l1PickInt.f bt102.1 bt106.2.2.2.2.2.2.2.2.2.2.2.2.2.2.1 bt106.2.2.2.2.2.2.2.2.2.2.2.2.2.2.2 (([0, 11, 12, 1000000, 1000001, (-1)] : List Int))).bind fun bt126 => (some (bt106.1, bt106.2.1, bt106.2.2.1, bt106.2.2.2.1, bt106.2.2.2.2.1, bt106.2.2.2.2.2.1, bt106.2.2.2.2.2.2.1, bt106.2.2.2.2.2.2.2.1, bt106.2.2.2.2.2.2.2.2.1, bt106.2.2.2.2.2.2.2.2.2.1, bt106.2.2.2.2.2.2.2.2.2.2.1, bt106.2.2.2.2.2.2.2.2.2.2.2.1, bt106.2.2.2.2.2.2.2.2.2.2.2.2.1, bt106.2.2.2.2.2.2.2.2.2.2.2.2.2.1, bt126.1))))
theorem spec_DrawFixedSpend.mono : ∀ a0 k, LeO (spec_DrawFixedSpend.f k a0) (spec_DrawFixedSpend.f (k + 1) a0) := by
  intro a0 k
  unfold spec_DrawFixedSpend.f
  repeat' first
      | (with_reducible exact spec_l1New.mono _ _)
      | (with_reducible exact spec_l5Draw.mono _ _ _ _)
      | (with_reducible exact LeO.refl _)
      | (with_reducible exact LeO.none _)
      | (with_reducible refine LeO.ite ?_ ?_)
      | (with_reducible refine LeO.bind ?_ (fun _ => ?_))
      | exact spec_l1New.mono _ _
      | exact spec_l5Draw.mono _ _ _ _
      | exact LeO.none _
      | refine LeO.ite ?_ ?_
      | refine LeO.bind ?_ (fun _ => ?_)
set_option maxHeartbeats 8000000 in
set_option maxRecDepth 100000 in
theorem spec_DrawFixedSpend.calls (k : Nat) (A0 : Option Addr) (c0 : Nat) (l0 : List Int) (r1 : Int) (r2 : Int) (r3 : Int) (r4 : Int) (r5 : Bool) (r6 : Int) (r7 : Int) (r8 : Int) (r9 : Int) (r10 : Int) (r11 : Int) (r12 : Int) (r13 : Int) (r14 : Int) (r15 : Int) (w : World) (hr0 : Kd.C (Kd.int .u8) w A0 l0.length l0) (hc0 : l0.length ≤ c0) (h : spec_DrawFixedSpend.f k l0 = some (r1, r2, r3, r4, r5, r6, r7, r8, r9, r10, r11, r12, r13, r14, r15)) :
    Calls Try.prog 27 #[.slice A0 l0.length c0] w fun e w' => e = .returned (.tuple #[.agg #[.int .i64 r1, .int .i64 r2, .int .i64 r3, .int .i64 r4, .bool r5, .int .i64 r6, .int .i64 r7, .int .i64 r8, .int .i64 r9, .int .i64 r10, .int .i64 r11, .int .i64 r12, .int .i64 r13, .int .i64 r14], .int .i64 r15]) ∧ Below w.heap.size w w' := by
  have hu27 := Try.underlying27
  have HR0 := Aside0.mk hr0
  have HC0 := Aside0.mk hc0
  clear hr0 hc0
  have HB := aM (Below.refl w.heap.size w)
  have H : ((spec_l1New.f k l0).bind fun bt102 => ((spec_l5Draw.f k bt102.1 bt102.2.1 bt102.2.2).bind fun bt106 => ((spec_l1PickInt.f bt102.1 bt106.2.2.2.2.2.2.2.2.2.2.2.2.2.2.1 bt106.2.2.2.2.2.2.2.2.2.2.2.2.2.2.2 (([0, 11, 12, 1000000, 1000001, (-1)] : List Int))).bind fun bt126 => (some (bt106.1, bt106.2.1, bt106.2.2.1, bt106.2.2.2.1, bt106.2.2.2.2.1, bt106.2.2.2.2.2.1, bt106.2.2.2.2.2.2.1, bt106.2.2.2.2.2.2.2.1, bt106.2.2.2.2.2.2.2.2.1, bt106.2.2.2.2.2.2.2.2.2.1, bt106.2.2.2.2.2.2.2.2.2.2.1, bt106.2.2.2.2.2.2.2.2.2.2.2.1, bt106.2.2.2.2.2.2.2.2.2.2.2.2.1, bt106.2.2.2.2.2.2.2.2.2.2.2.2.2.1, bt126.1))))) = some (r1, r2, r3, r4, r5, r6, r7, r8, r9, r10, r11, r12, r13, r14, r15) := h
  clear h
  replace H := Option.bind_eq_some_iff.mp H
  obtain ⟨⟨t102, t103, t104⟩, A20, H⟩ := H
  replace H : ((spec_l5Draw.f k t102 t103 t104).bind fun bt106 => ((spec_l1PickInt.f t102 bt106.2.2.2.2.2.2.2.2.2.2.2.2.2.2.1 bt106.2.2.2.2.2.2.2.2.2.2.2.2.2.2.2 (([0, 11, 12, 1000000, 1000001, (-1)] : List Int))).bind fun bt126 => (some (bt106.1, bt106.2.1, bt106.2.2.1, bt106.2.2.2.1, bt106.2.2.2.2.1, bt106.2.2.2.2.2.1, bt106.2.2.2.2.2.2.1, bt106.2.2.2.2.2.2.2.1, bt106.2.2.2.2.2.2.2.2.1, bt106.2.2.2.2.2.2.2.2.2.1, bt106.2.2.2.2.2.2.2.2.2.2.1, bt106.2.2.2.2.2.2.2.2.2.2.2.1, bt106.2.2.2.2.2.2.2.2.2.2.2.2.1, bt106.2.2.2.2.2.2.2.2.2.2.2.2.2.1, bt126.1)))) = some (r1, r2, r3, r4, r5, r6, r7, r8, r9, r10, r11, r12, r13, r14, r15) := H
  have A2 := Aside0.mk A20
  clear A20
  replace H := Option.bind_eq_some_iff.mp H
  obtain ⟨⟨t106, t107, t108, t109, t110, t111, t112, t113, t114, t115, t116, t117, t118, t119, t120, t121⟩, A30, H⟩ := H
  replace H : ((spec_l1PickInt.f t102 t120 t121 (([0, 11, 12, 1000000, 1000001, (-1)] : List Int))).bind fun bt126 => (some (t106, t107, t108, t109, t110, t111, t112, t113, t114, t115, t116, t117, t118, t119, bt126.1))) = some (r1, r2, r3, r4, r5, r6, r7, r8, r9, r10, r11, r12, r13, r14, r15) := H
  have A3 := Aside0.mk A30
  clear A30
  obtain ⟨y123, hy123⟩ : ∃ y_ : List Int, y_ = (([0, 11, 12, 1000000, 1000001, (-1)] : List Int)) := ⟨_, rfl⟩
  replace H : ((spec_l1PickInt.f t102 t120 t121 y123).bind fun bt126 => (some (t106, t107, t108, t109, t110, t111, t112, t113, t114, t115, t116, t117, t118, t119, bt126.1))) = some (r1, r2, r3, r4, r5, r6, r7, r8, r9, r10, r11, r12, r13, r14, r15) := by first | (rw [hy123]; with_reducible exact H) | (have H2_ := (Option.bind_some _ _).symm.trans H; rw [hy123]; with_reducible exact H2_) | (have H2_ := (Option.bind_some _ _).symm.trans H; with_reducible exact H2_) | with_reducible exact H | (rw [hy123]; exact H) | exact H
  have Ny123 := Aside0.mk hy123
  clear hy123
  replace H := Option.bind_eq_some_iff.mp H
  obtain ⟨⟨t126, t127, t128⟩, A40, H⟩ := H
  replace H : (some (t106, t107, t108, t109, t110, t111, t112, t113, t114, t115, t116, t117, t118, t119, t126)) = some (r1, r2, r3, r4, r5, r6, r7, r8, r9, r10, r11, r12, r13, r14, r15) := H
  have A4 := Aside0.mk A40
  clear A40
  simp only [Option.some.injEq, Prod.mk.injEq] at H
  obtain ⟨rfl, rfl, rfl, rfl, rfl, rfl, rfl, rfl, rfl, rfl, rfl, rfl, rfl, rfl, rfl⟩ := H
  go_enter Try.func27, Try.ntmps27
  try go_wp2_with (first | ((with_reducible refine gate_dst (N := 2) rfl ?_); refine box_event ?hg (N := 2) ?hd (cs := tk14 0 0 0 0 false 0 0 0 0 0 0 0 0 0) (t := 27) ?hr ?_; (case hd => rfl); (case hg => rfl); (case hr => first | (go_simp; done) | (go_simp; rfl)); intro gb101 hg w5 hbox hb; have n0_ := aM (below_step (bq HB) hb); have n1_ := aM (hbox); have n2_ := aM ((by rw [hg]; exact (below_size (bq HB)) : w.heap.size ≤ gb101)); have n3_ := n2_; clear HB; have HB := n0_; have BK101 := n1_; have GW101 := n2_; have GE101 := n3_; clear n0_ n1_ n2_ n3_; clear hb hbox hg) | ((with_reducible refine gate_callee (f := 64) rfl ?_); refine gL (some 7) Try.func64 #[.slice A0 l0.length c0] ?_; (with_reducible refine (spec_l1New.calls k _ _ l0 t102 t103 t104 w _ ?side1 ?side2 ?side3 A2.out).mono ?_); (case side1 => repeat (first | (with_reducible first | exact HB.out | apply beA | apply beD | apply bed | refine beS ?_ GE101.out) | exact HB.out)); (case side2 => exact HR0.out); (case side3 => exact HC0.out); rintro e w6 ⟨g105, rfl, hi, hb, hb2⟩; refine ⟨_, rfl, ?_⟩; have n0_ := aM (blk_below (g := gb101) (o := .cells (tk14 0 0 0 0 false 0 0 0 0 0 0 0 0 0) 27 (0, 0)) (kq BK101) hb2); have n1_ := aM (hb); have n2_ := aM (hi); have n3_ := aM (IsS82.ne_blk hi (blk_below (g := gb101) (o := .cells (tk14 0 0 0 0 false 0 0 0 0 0 0 0 0 0) 27 (0, 0)) (kq BK101) hb2) (by decide)); have n4_ := aM (Ne.symm (IsS82.ne_blk hi (blk_below (g := gb101) (o := .cells (tk14 0 0 0 0 false 0 0 0 0 0 0 0 0 0) 27 (0, 0)) (kq BK101) hb2) (by decide))); clear BK101 HB; have BK101 := n0_; have HB := n1_; have HI105 := n2_; have NB105_101 := n3_; have NB101_105 := n4_; clear n0_ n1_ n2_ n3_ n4_; (try clear hb); (try clear hb2); (try clear hk); (try clear hi)) | ((with_reducible refine gate_callee (f := 86) rfl ?_); refine gL (some 9) Try.func86 #[.pointer (some ⟨g105, 0, none⟩)] ?_; (with_reducible refine (spec_l5Draw.calls k g105 t102 t103 t104 t106 t107 t108 t109 t110 t111 t112 t113 t114 t115 t116 t117 t118 t119 t120 t121 w _ ?side1 ?side2 A3.out).mono ?_); (case side1 => repeat (first | (with_reducible first | exact HI105.out | apply IsS82.alloc | apply IsS82.drewN | apply IsS82.drew | apply IsS82.set_1 | apply IsS82.set_2 | refine IsS82.far ?_ NB105_101.out _) | exact HI105.out)); (case side2 => repeat (first | (with_reducible first | exact HB.out | apply beA | apply beD | apply bed | refine beS ?_ (IsS82.ge HI105.out) | refine beS ?_ GE101.out) | exact HB.out)); rintro e w7 ⟨rfl, hi, hb, hk⟩; refine ⟨_, rfl, ?_⟩; have n0_ := aM (KeepBut.blk hk (g' := gb101) (o := .cells (tk14 0 0 0 0 false 0 0 0 0 0 0 0 0 0) 27 (0, 0)) (kq BK101) NB101_105.out (by simp)); have n1_ := aM (hb); have n2_ := aM (hi); clear BK101 HB HI105; have BK101 := n0_; have HB := n1_; have HI105 := n2_; clear n0_ n1_ n2_; (try clear hb); (try clear hb2); (try clear hk); (try clear hi)) | ((with_reducible refine gate_dst (N := 5) rfl ?_); refine box_event ?hg (N := 5) ?hd (cs := tk14 0 0 0 0 false 0 0 0 0 0 0 0 0 0) (t := 27) ?hr ?_; (case hd => rfl); (case hg => rfl); (case hr => first | (go_simp; done) | (go_simp; rfl)); intro gb122 hg w8 hbox hb; have n0_ := aM (blk_below (kq BK101) hb); have n1_ := aM (IsS82.below (by repeat (first | (with_reducible first | exact HI105.out | apply IsS82.alloc | apply IsS82.drewN | apply IsS82.drew | apply IsS82.set_1 | apply IsS82.set_2 | refine IsS82.far ?_ NB105_101.out _) | exact HI105.out)) hb); have n2_ := aM (below_step (bqs HB (IsS82.ge HI105.out)) hb); have n3_ := aM (hbox); have n4_ := aM ((by rw [hg]; exact (below_size (bqs HB (IsS82.ge HI105.out))) : w.heap.size ≤ gb122)); have n5_ := n4_; have n6_ := aM ((by rw [hg]; exact Nat.ne_of_lt (blk_lt (kq BK101)) : gb101 ≠ gb122)); have n7_ := aM (n6_.out.symm); have n8_ := aM ((by rw [hg]; exact Nat.ne_of_lt (IsS82.lt (show IsS82 w _ g105 t102 t120 t121 from by repeat (first | (with_reducible first | exact HI105.out | apply IsS82.alloc | apply IsS82.drewN | apply IsS82.drew | apply IsS82.set_1 | apply IsS82.set_2 | refine IsS82.far ?_ NB105_101.out _) | exact HI105.out))) : g105 ≠ gb122)); have n9_ := aM ((by rw [hg]; exact Nat.ne_of_gt (IsS82.lt (show IsS82 w _ g105 t102 t120 t121 from by repeat (first | (with_reducible first | exact HI105.out | apply IsS82.alloc | apply IsS82.drewN | apply IsS82.drew | apply IsS82.set_1 | apply IsS82.set_2 | refine IsS82.far ?_ NB105_101.out _) | exact HI105.out))) : gb122 ≠ g105)); clear BK101 HI105 HB; have BK101 := n0_; have HI105 := n1_; have HB := n2_; have BK122 := n3_; have GW122 := n4_; have GE122 := n5_; have NB101_122 := n6_; have NB122_101 := n7_; have NB105_122 := n8_; have NB122_105 := n9_; clear n0_ n1_ n2_ n3_ n4_ n5_ n6_ n7_ n8_ n9_; clear hb hbox hg; have hnb9 := NB122_101.out; have hnc9 := NB101_122.out; have hnb10 := NB122_105.out; have hnc10 := NB105_122.out; obtain ⟨_,_,_,_,_,_,_,_,_,_,_,_,_,_⟩ := cz14 BK122.out; have hfz11_0 := blk_frozen BK122.out))
  have n0_ : Aside0 (((((((((((((((w8.setCell ⟨gb122, 0, none⟩ (.int .i64 t106)).setCell ⟨gb122, 1, none⟩ (.int .i64 t107)).setCell ⟨gb122, 2, none⟩ (.int .i64 t108)).setCell ⟨gb122, 3, none⟩ (.int .i64 t109)).setCell ⟨gb122, 4, none⟩ (.bool t110)).setCell ⟨gb122, 5, none⟩ (.int .i64 t111)).setCell ⟨gb122, 6, none⟩ (.int .i64 t112)).setCell ⟨gb122, 7, none⟩ (.int .i64 t113)).setCell ⟨gb122, 8, none⟩ (.int .i64 t114)).setCell ⟨gb122, 9, none⟩ (.int .i64 t115)).setCell ⟨gb122, 10, none⟩ (.int .i64 t116)).setCell ⟨gb122, 11, none⟩ (.int .i64 t117)).setCell ⟨gb122, 12, none⟩ (.int .i64 t118)).setCell ⟨gb122, 13, none⟩ (.int .i64 t119)).heap[gb101]? = some (.cells #[.int .i64 0, .int .i64 0, .int .i64 0, .int .i64 0, .bool false, .int .i64 0, .int .i64 0, .int .i64 0, .int .i64 0, .int .i64 0, .int .i64 0, .int .i64 0, .int .i64 0, .int .i64 0] 27 (0, 0))) := ⟨by refine far14 ?_ NB101_122.out; (with_reducible repeat (first | apply bkD | apply bkd | apply bkA)); exact BK101.out⟩
  have n1_ : Aside0 (((((((((((((((w8.setCell ⟨gb122, 0, none⟩ (.int .i64 t106)).setCell ⟨gb122, 1, none⟩ (.int .i64 t107)).setCell ⟨gb122, 2, none⟩ (.int .i64 t108)).setCell ⟨gb122, 3, none⟩ (.int .i64 t109)).setCell ⟨gb122, 4, none⟩ (.bool t110)).setCell ⟨gb122, 5, none⟩ (.int .i64 t111)).setCell ⟨gb122, 6, none⟩ (.int .i64 t112)).setCell ⟨gb122, 7, none⟩ (.int .i64 t113)).setCell ⟨gb122, 8, none⟩ (.int .i64 t114)).setCell ⟨gb122, 9, none⟩ (.int .i64 t115)).setCell ⟨gb122, 10, none⟩ (.int .i64 t116)).setCell ⟨gb122, 11, none⟩ (.int .i64 t117)).setCell ⟨gb122, 12, none⟩ (.int .i64 t118)).setCell ⟨gb122, 13, none⟩ (.int .i64 t119)).heap[gb122]? = some (.cells #[.int .i64 t106, .int .i64 t107, .int .i64 t108, .int .i64 t109, .bool t110, .int .i64 t111, .int .i64 t112, .int .i64 t113, .int .i64 t114, .int .i64 t115, .int .i64 t116, .int .i64 t117, .int .i64 t118, .int .i64 t119] 27 (0, 0))) := ⟨by refine put14 (cs := tk14 0 0 0 0 false 0 0 0 0 0 0 0 0 0) ?_; (with_reducible repeat (first | apply bkD | apply bkd | apply bkA)); exact BK122.out⟩
  have n2_ : Aside0 (IsS82 w ((((((((((((((w8.setCell ⟨gb122, 0, none⟩ (.int .i64 t106)).setCell ⟨gb122, 1, none⟩ (.int .i64 t107)).setCell ⟨gb122, 2, none⟩ (.int .i64 t108)).setCell ⟨gb122, 3, none⟩ (.int .i64 t109)).setCell ⟨gb122, 4, none⟩ (.bool t110)).setCell ⟨gb122, 5, none⟩ (.int .i64 t111)).setCell ⟨gb122, 6, none⟩ (.int .i64 t112)).setCell ⟨gb122, 7, none⟩ (.int .i64 t113)).setCell ⟨gb122, 8, none⟩ (.int .i64 t114)).setCell ⟨gb122, 9, none⟩ (.int .i64 t115)).setCell ⟨gb122, 10, none⟩ (.int .i64 t116)).setCell ⟨gb122, 11, none⟩ (.int .i64 t117)).setCell ⟨gb122, 12, none⟩ (.int .i64 t118)).setCell ⟨gb122, 13, none⟩ (.int .i64 t119)) g105 t102 t120 t121) := ⟨by repeat (first | (with_reducible first | exact HI105.out | apply IsS82.alloc | apply IsS82.drewN | apply IsS82.drew | apply IsS82.set_1 | apply IsS82.set_2 | refine IsS82.far ?_ NB105_101.out _ | refine IsS82.far ?_ NB105_122.out _) | exact HI105.out)⟩
  have n3_ : Aside0 (Below w.heap.size w ((((((((((((((w8.setCell ⟨gb122, 0, none⟩ (.int .i64 t106)).setCell ⟨gb122, 1, none⟩ (.int .i64 t107)).setCell ⟨gb122, 2, none⟩ (.int .i64 t108)).setCell ⟨gb122, 3, none⟩ (.int .i64 t109)).setCell ⟨gb122, 4, none⟩ (.bool t110)).setCell ⟨gb122, 5, none⟩ (.int .i64 t111)).setCell ⟨gb122, 6, none⟩ (.int .i64 t112)).setCell ⟨gb122, 7, none⟩ (.int .i64 t113)).setCell ⟨gb122, 8, none⟩ (.int .i64 t114)).setCell ⟨gb122, 9, none⟩ (.int .i64 t115)).setCell ⟨gb122, 10, none⟩ (.int .i64 t116)).setCell ⟨gb122, 11, none⟩ (.int .i64 t117)).setCell ⟨gb122, 12, none⟩ (.int .i64 t118)).setCell ⟨gb122, 13, none⟩ (.int .i64 t119))) := ⟨bqs HB (IsS82.ge HI105.out)⟩
  (try clear BK101)
  (try clear BK122)
  (try clear HI105)
  (try clear HB)
  generalize ((((((((((((((w8.setCell ⟨gb122, 0, none⟩ (.int .i64 t106)).setCell ⟨gb122, 1, none⟩ (.int .i64 t107)).setCell ⟨gb122, 2, none⟩ (.int .i64 t108)).setCell ⟨gb122, 3, none⟩ (.int .i64 t109)).setCell ⟨gb122, 4, none⟩ (.bool t110)).setCell ⟨gb122, 5, none⟩ (.int .i64 t111)).setCell ⟨gb122, 6, none⟩ (.int .i64 t112)).setCell ⟨gb122, 7, none⟩ (.int .i64 t113)).setCell ⟨gb122, 8, none⟩ (.int .i64 t114)).setCell ⟨gb122, 9, none⟩ (.int .i64 t115)).setCell ⟨gb122, 10, none⟩ (.int .i64 t116)).setCell ⟨gb122, 11, none⟩ (.int .i64 t117)).setCell ⟨gb122, 12, none⟩ (.int .i64 t118)).setCell ⟨gb122, 13, none⟩ (.int .i64 t119)) = w12 at n0_ n1_ n2_ n3_ ⊢
  have BK101 := n0_
  have BK122 := n1_
  have HI105 := n2_
  have HB := n3_
  clear n0_ n1_ n2_ n3_
  have n0_ := aM (blk_drew BK101.out)
  have n1_ := aM (blk_drew BK122.out)
  have n2_ := aM (IsS82.drew HI105.out)
  have n3_ := aM (below_drew1 HB.out)
  clear BK101 BK122 HI105 HB
  have BK101 := n0_
  have BK122 := n1_
  have HI105 := n2_
  have HB := n3_
  clear n0_ n1_ n2_ n3_
  refine start_ (n := 6) (S := fun w' => cb14 w' gb122 (.int .i64 t106) (.int .i64 t107) (.int .i64 t108) (.int .i64 t109) (.bool t110) (.int .i64 t111) (.int .i64 t112) (.int .i64 t113) (.int .i64 t114) (.int .i64 t115) (.int .i64 t116) (.int .i64 t117) (.int .i64 t118) (.int .i64 t119)) (ds := []) #[false, false, false, false, false, false] (by kernel_rfl) rfl rfl ⟨(blk_cell BK122.out 0).trans rfl, (blk_cell BK122.out 1).trans rfl, (blk_cell BK122.out 2).trans rfl, (blk_cell BK122.out 3).trans rfl, (blk_cell BK122.out 4).trans rfl, (blk_cell BK122.out 5).trans rfl, (blk_cell BK122.out 6).trans rfl, (blk_cell BK122.out 7).trans rfl, (blk_cell BK122.out 8).trans rfl, (blk_cell BK122.out 9).trans rfl, (blk_cell BK122.out 10).trans rfl, (blk_cell BK122.out 11).trans rfl, (blk_cell BK122.out 12).trans rfl, (blk_cell BK122.out 13).trans rfl⟩ (fun hHeld => ?_)
  generalize w12.drew = w13 at BK101 BK122 HI105 HB hHeld ⊢
  refine pQ (i := 1) (N := some 11) #[false, true, false, false, false, false] (by kernel_rfl) ?_
  refine tQ (i := 0) (N := some 10) #[true, true, false, false, false, false] (by kernel_rfl) hHeld ?_
  refine one_ (i := 2) (N := some 12) #[true, true, true, false, false, false] rfl rfl (by kernel_rfl) (by decide) (fun K hK => ?_)
  refine Kd.R_lit_step (Kd.int .i64) _ 3 ?hg (N := 12) ?hd (xs := ([0, 11, 12, 1000000, 1000001, (-1)] : List Int)) (inner := [.int .i64 0, .int .i64 11, .int .i64 12, .int .i64 1000000, .int .i64 1000001, .int .i64 (-1)]) (ok := fun _ => True) (okp := fun _ => True) ?hr ?hp (fun _ hk => hk) trivial (Below.refl _ _) (Nat.le_refl _) (by simp) ?_; (case hd => rfl); (case hg => rfl); (case hr => first | (go_simp; done) | (go_simp; rfl)); (case hp => exact (Reps.one (show Kd.M (Kd.int .i64) _ _ _ 0 [.int .i64 0] from rfl) (Reps.one (show Kd.M (Kd.int .i64) _ _ _ 11 [.int .i64 11] from rfl) (Reps.one (show Kd.M (Kd.int .i64) _ _ _ 12 [.int .i64 12] from rfl) (Reps.one (show Kd.M (Kd.int .i64) _ _ _ 1000000 [.int .i64 1000000] from rfl) (Reps.one (show Kd.M (Kd.int .i64) _ _ _ 1000001 [.int .i64 1000001] from rfl) (Reps.one (show Kd.M (Kd.int .i64) _ _ _ (-1) [.int .i64 (-1)] from rfl) (Reps.none _ _))))))))
  intro v124 w14 ho15 hb hg_ hnew_
  clear hg_ hnew_
  (first | rw [← Ny123.out] at ho15 | (simp only [Int.reduceToNat] at ho15; rw [← Ny123.out] at ho15))
  have n0_ := aM (Kd.R_lower ho15 (below_size (bqs HB (IsS82.ge HI105.out))))
  have n1_ := aM (blk_below (kq BK101) hb)
  have n2_ := aM (IsS82.below (by repeat (first | (with_reducible first | exact HI105.out | apply IsS82.alloc | apply IsS82.drewN | apply IsS82.drew | apply IsS82.set_1 | apply IsS82.set_2 | refine IsS82.far ?_ NB105_101.out _ | refine IsS82.far ?_ NB105_122.out _) | exact HI105.out)) hb)
  have n3_ := aM (blk_below (kq BK122) hb)
  have n4_ := aM (below_step (bqs HB (IsS82.ge HI105.out)) hb)
  clear BK101 HI105 BK122 HB
  have HO125 := n0_
  have BK101 := n1_
  have HI105 := n2_
  have BK122 := n3_
  have HB := n4_
  clear n0_ n1_ n2_ n3_ n4_
  clear hb ho15
  obtain ⟨Ao16, co16, eo16⟩ := Kd.R_slice HO125.out
  (first | subst eo16 | (injection eo16 with f1_ f2_ f3_; have f4_ := f1_.symm; have f5_ := f3_.symm; clear f1_ f2_ f3_; subst f4_; subst f5_))
  refine hK.out _ _ ⟨(blk_cell BK122.out 0).trans rfl, (blk_cell BK122.out 1).trans rfl, (blk_cell BK122.out 2).trans rfl, (blk_cell BK122.out 3).trans rfl, (blk_cell BK122.out 4).trans rfl, (blk_cell BK122.out 5).trans rfl, (blk_cell BK122.out 6).trans rfl, (blk_cell BK122.out 7).trans rfl, (blk_cell BK122.out 8).trans rfl, (blk_cell BK122.out 9).trans rfl, (blk_cell BK122.out 10).trans rfl, (blk_cell BK122.out 11).trans rfl, (blk_cell BK122.out 12).trans rfl, (blk_cell BK122.out 13).trans rfl⟩ (fun hHeld => ?_)
  clear hK K
  refine nQ (N := some 12) ?_
  refine one_ (i := 3) (N := some 13) #[true, true, true, true, false, false] rfl rfl (by kernel_rfl) (by decide) (fun K hK => ?_)
  refine goes_ Try.func65 (by kernel_rfl) rfl #[.pointer (some ⟨g105, 0, none⟩), .slice Ao16 y123.length co16] (by rfl) rfl rfl (by (try simp only [List.map_toArray, List.map_cons, List.map_nil]); first | done | rfl | (simp only [List.length_drop, List.length_take]; rfl)) ?_
  with_reducible refine (spec_l1PickInt.calls g105 t102 t120 t121 _ _ y123 t126 t127 t128 w _ ?side1 ?side2 ?side3 ?side4 ?side5 A4.out).mono ?_
  (case side1 => repeat (first | (with_reducible first | exact HI105.out | apply IsS82.alloc | apply IsS82.drewN | apply IsS82.drew | apply IsS82.set_1 | apply IsS82.set_2 | refine IsS82.far ?_ NB105_101.out _ | refine IsS82.far ?_ NB105_122.out _) | exact HI105.out))
  (case side2 => repeat (first | (with_reducible first | exact HB.out | apply beA | apply beD | apply bed | refine beS ?_ (IsS82.ge HI105.out) | refine beS ?_ GE101.out | refine beS ?_ GE122.out) | exact HB.out))
  (case side3 => repeat (first | exact (Kd.R_reads' HO125.out).2.2 | (with_reducible refine Kd.C_alloc ?_ _) | (with_reducible refine Kd.C_drewN ?_ _) | (with_reducible refine Kd.C_drew ?_)))
  (case side4 => exact (Kd.R_reads' HO125.out).2.1)
  (case side5 => exact far_slice (IsS82.own_ne HI105.out HO125.out (by decide)))
  rintro e w17 ⟨rfl, hi, hb, hk⟩
  refine ⟨_, rfl, ?_⟩
  have n0_ := aM (KeepBut.blk hk (g' := gb101) (o := .cells (tk14 0 0 0 0 false 0 0 0 0 0 0 0 0 0) 27 (0, 0)) (kq BK101) NB101_105.out (by simp))
  have n1_ := aM (KeepBut.blk hk (g' := gb122) (o := .cells (tk14 t106 t107 t108 t109 t110 t111 t112 t113 t114 t115 t116 t117 t118 t119) 27 (0, 0)) (kq BK122) NB122_105.out (by simp))
  have n2_ := aM (Kd.R_mono (Kd.R_keep (IsS82.apart (show IsS82 w _ g105 t102 t120 t121 from by repeat (first | (with_reducible first | exact HI105.out | apply IsS82.alloc | apply IsS82.drewN | apply IsS82.drew | apply IsS82.set_1 | apply IsS82.set_2 | refine IsS82.far ?_ NB105_101.out _ | refine IsS82.far ?_ NB105_122.out _) | exact HI105.out)) (rq HO125) (by decide)) hk (fun _ h => h.2)) (fun _ h => h.1))
  have n3_ := aM (hb)
  have n4_ := aM (hi)
  clear BK101 BK122 HO125 HB HI105
  have BK101 := n0_
  have BK122 := n1_
  have HO125 := n2_
  have HB := n3_
  have HI105 := n4_
  clear n0_ n1_ n2_ n3_ n4_
  (try clear hb)
  (try clear hb2)
  (try clear hk)
  (try clear hi)
  refine hK.out _ _ ⟨(blk_cell BK122.out 0).trans rfl, (blk_cell BK122.out 1).trans rfl, (blk_cell BK122.out 2).trans rfl, (blk_cell BK122.out 3).trans rfl, (blk_cell BK122.out 4).trans rfl, (blk_cell BK122.out 5).trans rfl, (blk_cell BK122.out 6).trans rfl, (blk_cell BK122.out 7).trans rfl, (blk_cell BK122.out 8).trans rfl, (blk_cell BK122.out 9).trans rfl, (blk_cell BK122.out 10).trans rfl, (blk_cell BK122.out 11).trans rfl, (blk_cell BK122.out 12).trans rfl, (blk_cell BK122.out 13).trans rfl⟩ (fun hHeld => ?_)
  clear hK K
  refine nQ (N := some 13) ?_
  refine one_ (i := 4) (N := none) #[true, true, true, true, true, false] rfl rfl (by kernel_rfl) (by decide) (fun K hK => ?_)
  have hs18 : w17.cell? ⟨gb101, 0, none⟩ = some (.int .i64 0) := (blk_cell BK101.out 0).trans rfl
  have hfs18 := blk_frozen BK101.out 0
  have hns18_1 := NB122_101.out
  have hms18_1 := NB101_122.out
  have hs19 : w17.cell? ⟨gb101, 1, none⟩ = some (.int .i64 0) := (blk_cell BK101.out 1).trans rfl
  have hfs19 := blk_frozen BK101.out 1
  have hns19_1 := NB122_101.out
  have hms19_1 := NB101_122.out
  have hs20 : w17.cell? ⟨gb101, 2, none⟩ = some (.int .i64 0) := (blk_cell BK101.out 2).trans rfl
  have hfs20 := blk_frozen BK101.out 2
  have hns20_1 := NB122_101.out
  have hms20_1 := NB101_122.out
  have hs21 : w17.cell? ⟨gb101, 3, none⟩ = some (.int .i64 0) := (blk_cell BK101.out 3).trans rfl
  have hfs21 := blk_frozen BK101.out 3
  have hns21_1 := NB122_101.out
  have hms21_1 := NB101_122.out
  have hs22 : w17.cell? ⟨gb101, 4, none⟩ = some (.bool false) := (blk_cell BK101.out 4).trans rfl
  have hfs22 := blk_frozen BK101.out 4
  have hns22_1 := NB122_101.out
  have hms22_1 := NB101_122.out
  have hs23 : w17.cell? ⟨gb101, 5, none⟩ = some (.int .i64 0) := (blk_cell BK101.out 5).trans rfl
  have hfs23 := blk_frozen BK101.out 5
  have hns23_1 := NB122_101.out
  have hms23_1 := NB101_122.out
  have hs24 : w17.cell? ⟨gb101, 6, none⟩ = some (.int .i64 0) := (blk_cell BK101.out 6).trans rfl
  have hfs24 := blk_frozen BK101.out 6
  have hns24_1 := NB122_101.out
  have hms24_1 := NB101_122.out
  have hs25 : w17.cell? ⟨gb101, 7, none⟩ = some (.int .i64 0) := (blk_cell BK101.out 7).trans rfl
  have hfs25 := blk_frozen BK101.out 7
  have hns25_1 := NB122_101.out
  have hms25_1 := NB101_122.out
  have hs26 : w17.cell? ⟨gb101, 8, none⟩ = some (.int .i64 0) := (blk_cell BK101.out 8).trans rfl
  have hfs26 := blk_frozen BK101.out 8
  have hns26_1 := NB122_101.out
  have hms26_1 := NB101_122.out
  have hs27 : w17.cell? ⟨gb101, 9, none⟩ = some (.int .i64 0) := (blk_cell BK101.out 9).trans rfl
  have hfs27 := blk_frozen BK101.out 9
  have hns27_1 := NB122_101.out
  have hms27_1 := NB101_122.out
  have hs28 : w17.cell? ⟨gb101, 10, none⟩ = some (.int .i64 0) := (blk_cell BK101.out 10).trans rfl
  have hfs28 := blk_frozen BK101.out 10
  have hns28_1 := NB122_101.out
  have hms28_1 := NB101_122.out
  have hs29 : w17.cell? ⟨gb101, 11, none⟩ = some (.int .i64 0) := (blk_cell BK101.out 11).trans rfl
  have hfs29 := blk_frozen BK101.out 11
  have hns29_1 := NB122_101.out
  have hms29_1 := NB101_122.out
  have hs30 : w17.cell? ⟨gb101, 12, none⟩ = some (.int .i64 0) := (blk_cell BK101.out 12).trans rfl
  have hfs30 := blk_frozen BK101.out 12
  have hns30_1 := NB122_101.out
  have hms30_1 := NB101_122.out
  have hs31 : w17.cell? ⟨gb101, 13, none⟩ = some (.int .i64 0) := (blk_cell BK101.out 13).trans rfl
  have hfs31 := blk_frozen BK101.out 13
  have hns31_1 := NB122_101.out
  have hms31_1 := NB101_122.out
  refine skip_ (w1 := ?_) (by rfl) rfl ?_ ?_
  rotate_left
  · go_simp
    rfl
  refine hK.out _ _ ⟨(by (iterate 14 refine (cell_far (p := ⟨gb101, _, none⟩) NB122_101.out _).trans ?_); exact hHeld.1), (by (iterate 14 refine (cell_far (p := ⟨gb101, _, none⟩) NB122_101.out _).trans ?_); exact hHeld.2.1), (by (iterate 14 refine (cell_far (p := ⟨gb101, _, none⟩) NB122_101.out _).trans ?_); exact hHeld.2.2.1), (by (iterate 14 refine (cell_far (p := ⟨gb101, _, none⟩) NB122_101.out _).trans ?_); exact hHeld.2.2.2.1), (by (iterate 14 refine (cell_far (p := ⟨gb101, _, none⟩) NB122_101.out _).trans ?_); exact hHeld.2.2.2.2.1), (by (iterate 14 refine (cell_far (p := ⟨gb101, _, none⟩) NB122_101.out _).trans ?_); exact hHeld.2.2.2.2.2.1), (by (iterate 14 refine (cell_far (p := ⟨gb101, _, none⟩) NB122_101.out _).trans ?_); exact hHeld.2.2.2.2.2.2.1), (by (iterate 14 refine (cell_far (p := ⟨gb101, _, none⟩) NB122_101.out _).trans ?_); exact hHeld.2.2.2.2.2.2.2.1), (by (iterate 14 refine (cell_far (p := ⟨gb101, _, none⟩) NB122_101.out _).trans ?_); exact hHeld.2.2.2.2.2.2.2.2.1), (by (iterate 14 refine (cell_far (p := ⟨gb101, _, none⟩) NB122_101.out _).trans ?_); exact hHeld.2.2.2.2.2.2.2.2.2.1), (by (iterate 14 refine (cell_far (p := ⟨gb101, _, none⟩) NB122_101.out _).trans ?_); exact hHeld.2.2.2.2.2.2.2.2.2.2.1), (by (iterate 14 refine (cell_far (p := ⟨gb101, _, none⟩) NB122_101.out _).trans ?_); exact hHeld.2.2.2.2.2.2.2.2.2.2.2.1), (by (iterate 14 refine (cell_far (p := ⟨gb101, _, none⟩) NB122_101.out _).trans ?_); exact hHeld.2.2.2.2.2.2.2.2.2.2.2.2.1), (by (iterate 14 refine (cell_far (p := ⟨gb101, _, none⟩) NB122_101.out _).trans ?_); exact hHeld.2.2.2.2.2.2.2.2.2.2.2.2.2)⟩ (fun hHeld => ?_)
  clear hK K
  refine pQ (i := 5) (N := some 3) #[true, true, true, true, true, true] (by kernel_rfl) ?_
  refine done_ (by kernel_rfl) ?_
  try go_wp2
  refine bodyPost_ret (results_ct rfl _ _ gb101 27 #[.int .i64 t106, .int .i64 t107, .int .i64 t108, .int .i64 t109, .bool t110, .int .i64 t111, .int .i64 t112, .int .i64 t113, .int .i64 t114, .int .i64 t115, .int .i64 t116, .int .i64 t117, .int .i64 t118, .int .i64 t119] (0, 0) _ rfl (by refine put14 (cs := tk14 0 0 0 0 false 0 0 0 0 0 0 0 0 0) ?_; (with_reducible repeat (first | apply bkD | apply bkd | apply bkA)); exact BK101.out) Try.underlying27 rfl (by kernel_rfl)) rfl ?_
  exact ⟨by first | rfl | (simp <;> rfl) | (simp [*] <;> rfl), bqs HB (IsS82.ge HI105.out)⟩

end Go.Proofs.Ytphkgmdbdnjmbaa.Print
