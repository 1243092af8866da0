/- Go functions as plain functions, and that the Go code answers as these. Printed by wip/patch.py. -/
import Derived.Test.YtlneecichgimpaaPrint0
import Derived.Test.YtlneecichgimpaaPrintLawsBig
import Derived.Test.YtlneecichgimpaaPrintSpecL6Draw
namespace Go.Proofs.Ytlneecichgimpaa.Print
open Go.RowKit Go.Proofs.Ytlneecichgimpaa.Base Go.Proofs.YtlneecichgimpaaW.PrintWords Go.Proofs.YtlneecichgimpaaW.PrintLast Go.Proofs.YtlneecichgimpaaW.PrintMore
attribute [local go_sem] max2_int min2_int max_two min_two max_three min_three max_four min_four
set_option linter.all false

/-! ### spec_DrawFairWake: function 5 -/
def spec_DrawFairWake.f (k : Nat) (l0 : List Int) : Option (Int × Int × Int × Int × Bool × Int × Int × Int × Int × Int × Int × Int × Int × Int × Int) := (spec_l1New.f k l0).bind fun bt102 => ((spec_l6Draw.f k bt102.1 bt102.2.1 bt102.2.2).bind fun bt106 => ((spec_l6DrawFloor.f bt102.1 bt106.2.2.2.2.2.2.2.2.2.2.2.2.2.2.1 bt106.2.2.2.2.2.2.2.2.2.2.2.2.2.2.2).bind fun bt123 => (some (bt106.1, bt106.2.1, bt106.2.2.1, bt106.2.2.2.1, bt106.2.2.2.2.1, bt106.2.2.2.2.2.1, bt106.2.2.2.2.2.2.1, bt106.2.2.2.2.2.2.2.1, bt106.2.2.2.2.2.2.2.2.1, bt106.2.2.2.2.2.2.2.2.2.1, bt106.2.2.2.2.2.2.2.2.2.2.1, bt106.2.2.2.2.2.2.2.2.2.2.2.1, bt106.2.2.2.2.2.2.2.2.2.2.2.2.1, bt106.2.2.2.2.2.2.2.2.2.2.2.2.2.1, bt123.1))))
theorem spec_DrawFairWake.mono : ∀ a0 k, LeO (spec_DrawFairWake.f k a0) (spec_DrawFairWake.f (k + 1) a0) := by
  intro a0 k
  unfold spec_DrawFairWake.f
  repeat' first
      | (with_reducible exact spec_l1New.mono _ _)
      | (with_reducible exact spec_l6Draw.mono _ _ _ _)
      | (with_reducible exact LeO.refl _)
      | (with_reducible exact LeO.none _)
      | (with_reducible refine LeO.ite ?_ ?_)
      | (with_reducible refine LeO.bind ?_ (fun _ => ?_))
set_option maxHeartbeats 8000000 in
set_option maxRecDepth 100000 in
theorem spec_DrawFairWake.calls (k : Nat) (A0 : Option Addr) (c0 : Nat) (l0 : List Int) (r1 : Int) (r2 : Int) (r3 : Int) (r4 : Int) (r5 : Bool) (r6 : Int) (r7 : Int) (r8 : Int) (r9 : Int) (r10 : Int) (r11 : Int) (r12 : Int) (r13 : Int) (r14 : Int) (r15 : Int) (w : World) (hr0 : Kd.C (Kd.int .u8) w A0 l0.length l0) (hc0 : l0.length ≤ c0) (h : spec_DrawFairWake.f k l0 = some (r1, r2, r3, r4, r5, r6, r7, r8, r9, r10, r11, r12, r13, r14, r15)) :
    Calls Try.prog 5 #[.slice A0 l0.length c0] w fun e w' => e = .returned (.tuple #[.agg #[.int .i64 r1, .int .i64 r2, .int .i64 r3, .int .i64 r4, .bool r5, .int .i64 r6, .int .i64 r7, .int .i64 r8, .int .i64 r9, .int .i64 r10, .int .i64 r11, .int .i64 r12, .int .i64 r13, .int .i64 r14], .int .i64 r15]) ∧ Below w.heap.size w w' := by
  have hu25 := Try.underlying25
  have HR0 := Aside0.mk hr0
  have HC0 := Aside0.mk hc0
  clear hr0 hc0
  have HB := aM (Below.refl w.heap.size w)
  have H : ((spec_l1New.f k l0).bind fun bt102 => ((spec_l6Draw.f k bt102.1 bt102.2.1 bt102.2.2).bind fun bt106 => ((spec_l6DrawFloor.f bt102.1 bt106.2.2.2.2.2.2.2.2.2.2.2.2.2.2.1 bt106.2.2.2.2.2.2.2.2.2.2.2.2.2.2.2).bind fun bt123 => (some (bt106.1, bt106.2.1, bt106.2.2.1, bt106.2.2.2.1, bt106.2.2.2.2.1, bt106.2.2.2.2.2.1, bt106.2.2.2.2.2.2.1, bt106.2.2.2.2.2.2.2.1, bt106.2.2.2.2.2.2.2.2.1, bt106.2.2.2.2.2.2.2.2.2.1, bt106.2.2.2.2.2.2.2.2.2.2.1, bt106.2.2.2.2.2.2.2.2.2.2.2.1, bt106.2.2.2.2.2.2.2.2.2.2.2.2.1, bt106.2.2.2.2.2.2.2.2.2.2.2.2.2.1, bt123.1))))) = some (r1, r2, r3, r4, r5, r6, r7, r8, r9, r10, r11, r12, r13, r14, r15) := h
  clear h
  replace H := Option.bind_eq_some_iff.mp H
  obtain ⟨⟨t102, t103, t104⟩, A20, H⟩ := H
  replace H : ((spec_l6Draw.f k t102 t103 t104).bind fun bt106 => ((spec_l6DrawFloor.f t102 bt106.2.2.2.2.2.2.2.2.2.2.2.2.2.2.1 bt106.2.2.2.2.2.2.2.2.2.2.2.2.2.2.2).bind fun bt123 => (some (bt106.1, bt106.2.1, bt106.2.2.1, bt106.2.2.2.1, bt106.2.2.2.2.1, bt106.2.2.2.2.2.1, bt106.2.2.2.2.2.2.1, bt106.2.2.2.2.2.2.2.1, bt106.2.2.2.2.2.2.2.2.1, bt106.2.2.2.2.2.2.2.2.2.1, bt106.2.2.2.2.2.2.2.2.2.2.1, bt106.2.2.2.2.2.2.2.2.2.2.2.1, bt106.2.2.2.2.2.2.2.2.2.2.2.2.1, bt106.2.2.2.2.2.2.2.2.2.2.2.2.2.1, bt123.1)))) = some (r1, r2, r3, r4, r5, r6, r7, r8, r9, r10, r11, r12, r13, r14, r15) := H
  have A2 := Aside0.mk A20
  clear A20
  replace H := Option.bind_eq_some_iff.mp H
  obtain ⟨⟨t106, t107, t108, t109, t110, t111, t112, t113, t114, t115, t116, t117, t118, t119, t120, t121⟩, A30, H⟩ := H
  replace H : ((spec_l6DrawFloor.f t102 t120 t121).bind fun bt123 => (some (t106, t107, t108, t109, t110, t111, t112, t113, t114, t115, t116, t117, t118, t119, bt123.1))) = some (r1, r2, r3, r4, r5, r6, r7, r8, r9, r10, r11, r12, r13, r14, r15) := H
  have A3 := Aside0.mk A30
  clear A30
  replace H := Option.bind_eq_some_iff.mp H
  obtain ⟨⟨t123, t124, t125⟩, A40, H⟩ := H
  replace H : (some (t106, t107, t108, t109, t110, t111, t112, t113, t114, t115, t116, t117, t118, t119, t123)) = some (r1, r2, r3, r4, r5, r6, r7, r8, r9, r10, r11, r12, r13, r14, r15) := H
  have A4 := Aside0.mk A40
  clear A40
  simp only [Option.some.injEq, Prod.mk.injEq] at H
  obtain ⟨rfl, rfl, rfl, rfl, rfl, rfl, rfl, rfl, rfl, rfl, rfl, rfl, rfl, rfl, rfl⟩ := H
  go_enter Try.func5, Try.ntmps5
  try go_wp2_with (first | ((with_reducible refine gate_dst (N := 2) rfl ?_); refine bE (N := 2) (cs := tk14 0 0 0 0 false 0 0 0 0 0 0 0 0 0) (t := 25) ?_; intro gb101 hg w5 hbox hb; have n0_ := aM (below_step (bq HB) hb); have n1_ := aM (hbox); have n2_ := aM ((by rw [hg]; exact (below_size (bq HB)) : w.heap.size ≤ gb101)); have n3_ := n2_; clear HB; have HB := n0_; have BK101 := n1_; have GW101 := n2_; have GE101 := n3_; clear n0_ n1_ n2_ n3_; clear hb hbox hg) | ((with_reducible refine gate_callee (f := 13) rfl ?_); refine gL (some 7) Try.func13 #[.slice A0 l0.length c0] ?_; (with_reducible refine (spec_l1New.calls k _ _ l0 t102 t103 t104 w _ ?side1 ?side2 ?side3 A2.out).mono ?_); (case side1 => exact bq HB); (case side2 => exact HR0.out); (case side3 => exact HC0.out); rintro e w6 ⟨g105, rfl, hi, hb, hb2⟩; refine ⟨_, rfl, ?_⟩; have n0_ := aM (blk_below (g := gb101) (o := .cells (tk14 0 0 0 0 false 0 0 0 0 0 0 0 0 0) 25 (0, 0)) (kq BK101) hb2); have n1_ := aM (hb); have n2_ := aM (hi); have n3_ := aM (IsS43.ne_blk hi (blk_below (g := gb101) (o := .cells (tk14 0 0 0 0 false 0 0 0 0 0 0 0 0 0) 25 (0, 0)) (kq BK101) hb2) (by decide)); have n4_ := aM (Ne.symm (IsS43.ne_blk hi (blk_below (g := gb101) (o := .cells (tk14 0 0 0 0 false 0 0 0 0 0 0 0 0 0) 25 (0, 0)) (kq BK101) hb2) (by decide))); clear BK101 HB; have BK101 := n0_; have HB := n1_; have HI105 := n2_; have NB105_101 := n3_; have NB101_105 := n4_; clear n0_ n1_ n2_ n3_ n4_; (try clear hb); (try clear hb2); (try clear hk); (try clear hi)) | ((with_reducible refine gate_callee (f := 14) rfl ?_); refine gL (some 9) Try.func14 #[.pointer (some ⟨g105, 0, none⟩)] ?_; (with_reducible refine (spec_l6Draw.calls k g105 t102 t103 t104 t106 t107 t108 t109 t110 t111 t112 t113 t114 t115 t116 t117 t118 t119 t120 t121 w _ ?side1 ?side2 A3.out).mono ?_); (case side1 => exact iq43 HI105); (case side2 => exact bqs HB (IsS43.ge HI105.out)); rintro e w7 ⟨rfl, hi, hb, hk⟩; refine ⟨_, rfl, ?_⟩; have n0_ := aM (KeepBut.blk hk (g' := gb101) (o := .cells (tk14 0 0 0 0 false 0 0 0 0 0 0 0 0 0) 25 (0, 0)) (kq BK101) NB101_105.out (by simp)); have n1_ := aM (hb); have n2_ := aM (hi); clear BK101 HB HI105; have BK101 := n0_; have HB := n1_; have HI105 := n2_; clear n0_ n1_ n2_; (try clear hb); (try clear hb2); (try clear hk); (try clear hi)) | ((with_reducible refine gate_dst (N := 5) rfl ?_); refine bE (N := 5) (cs := tk14 0 0 0 0 false 0 0 0 0 0 0 0 0 0) (t := 25) ?_; intro gb122 hg w8 hbox hb; have n0_ := aM (blk_below (kq BK101) hb); have n1_ := aM (IsS43.below (iq43 HI105) hb); have n2_ := aM (below_step (bqs HB (IsS43.ge HI105.out)) hb); have n3_ := aM (hbox); have n4_ := aM ((by rw [hg]; exact (below_size (bqs HB (IsS43.ge HI105.out))) : w.heap.size ≤ gb122)); have n5_ := n4_; have n6_ := aM ((by rw [hg]; exact Nat.ne_of_lt (blk_lt (kq BK101)) : gb101 ≠ gb122)); have n7_ := aM (n6_.out.symm); have n8_ := aM ((by rw [hg]; exact Nat.ne_of_lt (IsS43.lt (show IsS43 w _ g105 t102 t120 t121 from iq43 HI105)) : g105 ≠ gb122)); have n9_ := aM ((by rw [hg]; exact Nat.ne_of_gt (IsS43.lt (show IsS43 w _ g105 t102 t120 t121 from iq43 HI105)) : gb122 ≠ g105)); clear BK101 HI105 HB; have BK101 := n0_; have HI105 := n1_; have HB := n2_; have BK122 := n3_; have GW122 := n4_; have GE122 := n5_; have NB101_122 := n6_; have NB122_101 := n7_; have NB105_122 := n8_; have NB122_105 := n9_; clear n0_ n1_ n2_ n3_ n4_ n5_ n6_ n7_ n8_ n9_; clear hb hbox hg; have hnb9 := NB122_101.out; have hnc9 := NB101_122.out; have hnb10 := NB122_105.out; have hnc10 := NB105_122.out; obtain ⟨_,_,_,_,_,_,_,_,_,_,_,_,_,_⟩ := cz14 BK122.out; have hfz11_0 := blk_frozen BK122.out))
  have n0_ : Aside0 (((((((((((((((w8.setCell ⟨gb122, 0, none⟩ (.int .i64 t106)).setCell ⟨gb122, 1, none⟩ (.int .i64 t107)).setCell ⟨gb122, 2, none⟩ (.int .i64 t108)).setCell ⟨gb122, 3, none⟩ (.int .i64 t109)).setCell ⟨gb122, 4, none⟩ (.bool t110)).setCell ⟨gb122, 5, none⟩ (.int .i64 t111)).setCell ⟨gb122, 6, none⟩ (.int .i64 t112)).setCell ⟨gb122, 7, none⟩ (.int .i64 t113)).setCell ⟨gb122, 8, none⟩ (.int .i64 t114)).setCell ⟨gb122, 9, none⟩ (.int .i64 t115)).setCell ⟨gb122, 10, none⟩ (.int .i64 t116)).setCell ⟨gb122, 11, none⟩ (.int .i64 t117)).setCell ⟨gb122, 12, none⟩ (.int .i64 t118)).setCell ⟨gb122, 13, none⟩ (.int .i64 t119)).heap[gb101]? = some (.cells #[.int .i64 0, .int .i64 0, .int .i64 0, .int .i64 0, .bool false, .int .i64 0, .int .i64 0, .int .i64 0, .int .i64 0, .int .i64 0, .int .i64 0, .int .i64 0, .int .i64 0, .int .i64 0] 25 (0, 0))) := ⟨by refine far14 ?_ NB101_122.out; (with_reducible repeat (first | apply bkD | apply bkd | apply bkA)); exact BK101.out⟩
  have n1_ : Aside0 (((((((((((((((w8.setCell ⟨gb122, 0, none⟩ (.int .i64 t106)).setCell ⟨gb122, 1, none⟩ (.int .i64 t107)).setCell ⟨gb122, 2, none⟩ (.int .i64 t108)).setCell ⟨gb122, 3, none⟩ (.int .i64 t109)).setCell ⟨gb122, 4, none⟩ (.bool t110)).setCell ⟨gb122, 5, none⟩ (.int .i64 t111)).setCell ⟨gb122, 6, none⟩ (.int .i64 t112)).setCell ⟨gb122, 7, none⟩ (.int .i64 t113)).setCell ⟨gb122, 8, none⟩ (.int .i64 t114)).setCell ⟨gb122, 9, none⟩ (.int .i64 t115)).setCell ⟨gb122, 10, none⟩ (.int .i64 t116)).setCell ⟨gb122, 11, none⟩ (.int .i64 t117)).setCell ⟨gb122, 12, none⟩ (.int .i64 t118)).setCell ⟨gb122, 13, none⟩ (.int .i64 t119)).heap[gb122]? = some (.cells #[.int .i64 t106, .int .i64 t107, .int .i64 t108, .int .i64 t109, .bool t110, .int .i64 t111, .int .i64 t112, .int .i64 t113, .int .i64 t114, .int .i64 t115, .int .i64 t116, .int .i64 t117, .int .i64 t118, .int .i64 t119] 25 (0, 0))) := ⟨by refine put14 (cs := tk14 0 0 0 0 false 0 0 0 0 0 0 0 0 0) ?_; (with_reducible repeat (first | apply bkD | apply bkd | apply bkA)); exact BK122.out⟩
  have n2_ : Aside0 (IsS43 w ((((((((((((((w8.setCell ⟨gb122, 0, none⟩ (.int .i64 t106)).setCell ⟨gb122, 1, none⟩ (.int .i64 t107)).setCell ⟨gb122, 2, none⟩ (.int .i64 t108)).setCell ⟨gb122, 3, none⟩ (.int .i64 t109)).setCell ⟨gb122, 4, none⟩ (.bool t110)).setCell ⟨gb122, 5, none⟩ (.int .i64 t111)).setCell ⟨gb122, 6, none⟩ (.int .i64 t112)).setCell ⟨gb122, 7, none⟩ (.int .i64 t113)).setCell ⟨gb122, 8, none⟩ (.int .i64 t114)).setCell ⟨gb122, 9, none⟩ (.int .i64 t115)).setCell ⟨gb122, 10, none⟩ (.int .i64 t116)).setCell ⟨gb122, 11, none⟩ (.int .i64 t117)).setCell ⟨gb122, 12, none⟩ (.int .i64 t118)).setCell ⟨gb122, 13, none⟩ (.int .i64 t119)) g105 t102 t120 t121) := ⟨iq43 HI105⟩
  have n3_ : Aside0 (Below w.heap.size w ((((((((((((((w8.setCell ⟨gb122, 0, none⟩ (.int .i64 t106)).setCell ⟨gb122, 1, none⟩ (.int .i64 t107)).setCell ⟨gb122, 2, none⟩ (.int .i64 t108)).setCell ⟨gb122, 3, none⟩ (.int .i64 t109)).setCell ⟨gb122, 4, none⟩ (.bool t110)).setCell ⟨gb122, 5, none⟩ (.int .i64 t111)).setCell ⟨gb122, 6, none⟩ (.int .i64 t112)).setCell ⟨gb122, 7, none⟩ (.int .i64 t113)).setCell ⟨gb122, 8, none⟩ (.int .i64 t114)).setCell ⟨gb122, 9, none⟩ (.int .i64 t115)).setCell ⟨gb122, 10, none⟩ (.int .i64 t116)).setCell ⟨gb122, 11, none⟩ (.int .i64 t117)).setCell ⟨gb122, 12, none⟩ (.int .i64 t118)).setCell ⟨gb122, 13, none⟩ (.int .i64 t119))) := ⟨bqs HB (IsS43.ge HI105.out)⟩
  (try clear BK101)
  (try clear BK122)
  (try clear HI105)
  (try clear HB)
  generalize ((((((((((((((w8.setCell ⟨gb122, 0, none⟩ (.int .i64 t106)).setCell ⟨gb122, 1, none⟩ (.int .i64 t107)).setCell ⟨gb122, 2, none⟩ (.int .i64 t108)).setCell ⟨gb122, 3, none⟩ (.int .i64 t109)).setCell ⟨gb122, 4, none⟩ (.bool t110)).setCell ⟨gb122, 5, none⟩ (.int .i64 t111)).setCell ⟨gb122, 6, none⟩ (.int .i64 t112)).setCell ⟨gb122, 7, none⟩ (.int .i64 t113)).setCell ⟨gb122, 8, none⟩ (.int .i64 t114)).setCell ⟨gb122, 9, none⟩ (.int .i64 t115)).setCell ⟨gb122, 10, none⟩ (.int .i64 t116)).setCell ⟨gb122, 11, none⟩ (.int .i64 t117)).setCell ⟨gb122, 12, none⟩ (.int .i64 t118)).setCell ⟨gb122, 13, none⟩ (.int .i64 t119)) = w12 at n0_ n1_ n2_ n3_ ⊢
  have BK101 := n0_
  have BK122 := n1_
  have HI105 := n2_
  have HB := n3_
  clear n0_ n1_ n2_ n3_
  have n0_ := aM (blk_drew BK101.out)
  have n1_ := aM (blk_drew BK122.out)
  have n2_ := aM (IsS43.drew HI105.out)
  have n3_ := aM (below_drew1 HB.out)
  clear BK101 BK122 HI105 HB
  have BK101 := n0_
  have BK122 := n1_
  have HI105 := n2_
  have HB := n3_
  clear n0_ n1_ n2_ n3_
  refine start_ (n := 5) (S := fun w' => cb14 w' gb122 (.int .i64 t106) (.int .i64 t107) (.int .i64 t108) (.int .i64 t109) (.bool t110) (.int .i64 t111) (.int .i64 t112) (.int .i64 t113) (.int .i64 t114) (.int .i64 t115) (.int .i64 t116) (.int .i64 t117) (.int .i64 t118) (.int .i64 t119)) (ds := []) #[false, false, false, false, false] (by kernel_rfl) rfl rfl (cbE BK122) (fun hHeld => ?_)
  generalize w12.drew = w13 at BK101 BK122 HI105 HB hHeld ⊢
  refine pQ (i := 1) (N := some 11) #[false, true, false, false, false] (by kernel_rfl) ?_
  refine tQ (i := 0) (N := some 10) #[true, true, false, false, false] (by kernel_rfl) hHeld ?_
  refine one_ (i := 2) (N := some 12) #[true, true, true, false, false] rfl rfl (by kernel_rfl) (by decide) (fun K hK => ?_)
  refine goes_ Try.func15 (by kernel_rfl) rfl #[.pointer (some ⟨g105, 0, none⟩)] (by rfl) rfl rfl (by (try simp only [List.map_toArray, List.map_cons, List.map_nil]); first | done | rfl | (simp only [List.length_drop, List.length_take]; rfl)) ?_
  with_reducible refine (spec_l6DrawFloor.calls g105 t102 t120 t121 t123 t124 t125 w _ ?side1 ?side2 A4.out).mono ?_
  (case side1 => exact iq43 HI105)
  (case side2 => exact bqs HB (IsS43.ge HI105.out))
  rintro e w14 ⟨rfl, hi, hb, hk⟩
  refine ⟨_, rfl, ?_⟩
  have n0_ := aM (KeepBut.blk hk (g' := gb101) (o := .cells (tk14 0 0 0 0 false 0 0 0 0 0 0 0 0 0) 25 (0, 0)) (kq BK101) NB101_105.out (by simp))
  have n1_ := aM (KeepBut.blk hk (g' := gb122) (o := .cells (tk14 t106 t107 t108 t109 t110 t111 t112 t113 t114 t115 t116 t117 t118 t119) 25 (0, 0)) (kq BK122) NB122_105.out (by simp))
  have n2_ := aM (hb)
  have n3_ := aM (hi)
  clear BK101 BK122 HB HI105
  have BK101 := n0_
  have BK122 := n1_
  have HB := n2_
  have HI105 := n3_
  clear n0_ n1_ n2_ n3_
  (try clear hb)
  (try clear hb2)
  (try clear hk)
  (try clear hi)
  refine hK.out _ _ (cbE BK122) (fun hHeld => ?_)
  clear hK K
  refine nQ (N := some 12) ?_
  refine one_ (i := 3) (N := none) #[true, true, true, true, false] rfl rfl (by kernel_rfl) (by decide) (fun K hK => ?_)
  have hs15 : w14.cell? ⟨gb101, 0, none⟩ = some (.int .i64 0) := (blk_cell BK101.out 0).trans rfl
  have hfs15 := blk_frozen BK101.out 0
  have hns15_1 := NB122_101.out
  have hms15_1 := NB101_122.out
  have hs16 : w14.cell? ⟨gb101, 1, none⟩ = some (.int .i64 0) := (blk_cell BK101.out 1).trans rfl
  have hfs16 := blk_frozen BK101.out 1
  have hns16_1 := NB122_101.out
  have hms16_1 := NB101_122.out
  have hs17 : w14.cell? ⟨gb101, 2, none⟩ = some (.int .i64 0) := (blk_cell BK101.out 2).trans rfl
  have hfs17 := blk_frozen BK101.out 2
  have hns17_1 := NB122_101.out
  have hms17_1 := NB101_122.out
  have hs18 : w14.cell? ⟨gb101, 3, none⟩ = some (.int .i64 0) := (blk_cell BK101.out 3).trans rfl
  have hfs18 := blk_frozen BK101.out 3
  have hns18_1 := NB122_101.out
  have hms18_1 := NB101_122.out
  have hs19 : w14.cell? ⟨gb101, 4, none⟩ = some (.bool false) := (blk_cell BK101.out 4).trans rfl
  have hfs19 := blk_frozen BK101.out 4
  have hns19_1 := NB122_101.out
  have hms19_1 := NB101_122.out
  have hs20 : w14.cell? ⟨gb101, 5, none⟩ = some (.int .i64 0) := (blk_cell BK101.out 5).trans rfl
  have hfs20 := blk_frozen BK101.out 5
  have hns20_1 := NB122_101.out
  have hms20_1 := NB101_122.out
  have hs21 : w14.cell? ⟨gb101, 6, none⟩ = some (.int .i64 0) := (blk_cell BK101.out 6).trans rfl
  have hfs21 := blk_frozen BK101.out 6
  have hns21_1 := NB122_101.out
  have hms21_1 := NB101_122.out
  have hs22 : w14.cell? ⟨gb101, 7, none⟩ = some (.int .i64 0) := (blk_cell BK101.out 7).trans rfl
  have hfs22 := blk_frozen BK101.out 7
  have hns22_1 := NB122_101.out
  have hms22_1 := NB101_122.out
  have hs23 : w14.cell? ⟨gb101, 8, none⟩ = some (.int .i64 0) := (blk_cell BK101.out 8).trans rfl
  have hfs23 := blk_frozen BK101.out 8
  have hns23_1 := NB122_101.out
  have hms23_1 := NB101_122.out
  have hs24 : w14.cell? ⟨gb101, 9, none⟩ = some (.int .i64 0) := (blk_cell BK101.out 9).trans rfl
  have hfs24 := blk_frozen BK101.out 9
  have hns24_1 := NB122_101.out
  have hms24_1 := NB101_122.out
  have hs25 : w14.cell? ⟨gb101, 10, none⟩ = some (.int .i64 0) := (blk_cell BK101.out 10).trans rfl
  have hfs25 := blk_frozen BK101.out 10
  have hns25_1 := NB122_101.out
  have hms25_1 := NB101_122.out
  have hs26 : w14.cell? ⟨gb101, 11, none⟩ = some (.int .i64 0) := (blk_cell BK101.out 11).trans rfl
  have hfs26 := blk_frozen BK101.out 11
  have hns26_1 := NB122_101.out
  have hms26_1 := NB101_122.out
  have hs27 : w14.cell? ⟨gb101, 12, none⟩ = some (.int .i64 0) := (blk_cell BK101.out 12).trans rfl
  have hfs27 := blk_frozen BK101.out 12
  have hns27_1 := NB122_101.out
  have hms27_1 := NB101_122.out
  have hs28 : w14.cell? ⟨gb101, 13, none⟩ = some (.int .i64 0) := (blk_cell BK101.out 13).trans rfl
  have hfs28 := blk_frozen BK101.out 13
  have hns28_1 := NB122_101.out
  have hms28_1 := NB101_122.out
  refine skip_ (w1 := ?_) (by rfl) rfl ?_ ?_
  rotate_left
  · go_simp
    rfl
  refine hK.out _ _ ⟨(by (iterate 14 refine (cell_far (p := ⟨gb101, _, none⟩) NB122_101.out _).trans ?_); exact hHeld.1), (by (iterate 14 refine (cell_far (p := ⟨gb101, _, none⟩) NB122_101.out _).trans ?_); exact hHeld.2.1), (by (iterate 14 refine (cell_far (p := ⟨gb101, _, none⟩) NB122_101.out _).trans ?_); exact hHeld.2.2.1), (by (iterate 14 refine (cell_far (p := ⟨gb101, _, none⟩) NB122_101.out _).trans ?_); exact hHeld.2.2.2.1), (by (iterate 14 refine (cell_far (p := ⟨gb101, _, none⟩) NB122_101.out _).trans ?_); exact hHeld.2.2.2.2.1), (by (iterate 14 refine (cell_far (p := ⟨gb101, _, none⟩) NB122_101.out _).trans ?_); exact hHeld.2.2.2.2.2.1), (by (iterate 14 refine (cell_far (p := ⟨gb101, _, none⟩) NB122_101.out _).trans ?_); exact hHeld.2.2.2.2.2.2.1), (by (iterate 14 refine (cell_far (p := ⟨gb101, _, none⟩) NB122_101.out _).trans ?_); exact hHeld.2.2.2.2.2.2.2.1), (by (iterate 14 refine (cell_far (p := ⟨gb101, _, none⟩) NB122_101.out _).trans ?_); exact hHeld.2.2.2.2.2.2.2.2.1), (by (iterate 14 refine (cell_far (p := ⟨gb101, _, none⟩) NB122_101.out _).trans ?_); exact hHeld.2.2.2.2.2.2.2.2.2.1), (by (iterate 14 refine (cell_far (p := ⟨gb101, _, none⟩) NB122_101.out _).trans ?_); exact hHeld.2.2.2.2.2.2.2.2.2.2.1), (by (iterate 14 refine (cell_far (p := ⟨gb101, _, none⟩) NB122_101.out _).trans ?_); exact hHeld.2.2.2.2.2.2.2.2.2.2.2.1), (by (iterate 14 refine (cell_far (p := ⟨gb101, _, none⟩) NB122_101.out _).trans ?_); exact hHeld.2.2.2.2.2.2.2.2.2.2.2.2.1), (by (iterate 14 refine (cell_far (p := ⟨gb101, _, none⟩) NB122_101.out _).trans ?_); exact hHeld.2.2.2.2.2.2.2.2.2.2.2.2.2)⟩ (fun hHeld => ?_)
  clear hK K
  refine pQ (i := 4) (N := some 3) #[true, true, true, true, true] (by kernel_rfl) ?_
  refine done_ (by kernel_rfl) ?_
  try go_wp2
  refine bodyPost_ret (results_ct rfl _ _ gb101 25 #[.int .i64 t106, .int .i64 t107, .int .i64 t108, .int .i64 t109, .bool t110, .int .i64 t111, .int .i64 t112, .int .i64 t113, .int .i64 t114, .int .i64 t115, .int .i64 t116, .int .i64 t117, .int .i64 t118, .int .i64 t119] (0, 0) _ rfl (by refine put14 (cs := tk14 0 0 0 0 false 0 0 0 0 0 0 0 0 0) ?_; (with_reducible repeat (first | apply bkD | apply bkd | apply bkA)); exact BK101.out) Try.underlying25 rfl (by kernel_rfl)) rfl ?_
  exact ⟨sR, bqs HB (IsS43.ge HI105.out)⟩

/-! ### impl_in: function 30 -/
def impl_in.f (a0 : Int) (a1 : Int) (a2 : Int) : Option (Bool) := if a0 ≥ a1 then (some (decide (a0 ≤ a2))) else (some false)
set_option maxHeartbeats 8000000 in
set_option maxRecDepth 100000 in
theorem impl_in.calls (a0 : Int) (a1 : Int) (a2 : Int) (r : Bool) (w : World) (h : impl_in.f a0 a1 a2 = some r) :
    Calls Try.prog 30 #[.int .i64 a0, .int .i64 a1, .int .i64 a2] w fun e w' => e = .returned (.bool r) ∧ Drawn0 w w' := by
  have H : (if a0 ≥ a1 then (some (decide (a0 ≤ a2))) else (some false)) = some r := h
  clear h
  by_cases c4 : a0 ≥ a1
  · rw [if_pos c4] at H
    have c4b0 : decide (a1 ≤ a0) = true := decide_eq_true c4
    clear c4
    obtain rfl := Option.some.inj H
    go_enter Try.func30, Try.ntmps30
    go_wp2
    go_ret
    exact ⟨by first | rfl | (simp; done) | (simp [*]; done), dq⟩
  rw [if_neg c4] at H
  have c4b0 : decide (a1 ≤ a0) = false := decide_eq_false c4
  clear c4
  obtain rfl := Option.some.inj H
  go_enter Try.func30, Try.ntmps30
  go_wp2
  go_ret
  exact ⟨by first | rfl | (simp; done) | (simp [*]; done), dq⟩

/-! ### impl_NiceOk: function 27 -/
def impl_NiceOk.f (a0 : Int) : Option (Bool) := (impl_in.f a0 (-4) 4).bind fun t101 => (some t101)
set_option maxHeartbeats 8000000 in
set_option maxRecDepth 100000 in
theorem impl_NiceOk.calls (a0 : Int) (r : Bool) (w : World) (h : impl_NiceOk.f a0 = some r) :
    Calls Try.prog 27 #[.int .i64 a0] w fun e w' => e = .returned (.bool r) ∧ Drawn0 w w' := by
  have H : ((impl_in.f a0 (-4) 4).bind fun t101 => (some t101)) = some r := h
  clear h
  replace H := Option.bind_eq_some_iff.mp H
  obtain ⟨t101, A20, H⟩ := H
  replace H : (some t101) = some r := H
  have A2 := Aside0.mk A20
  clear A20
  obtain rfl := Option.some.inj H
  go_enter Try.func27, Try.ntmps27
  go_wp2_with (first | ((with_reducible refine gate_callee (f := 30) rfl ?_); refine gL (some 4) Try.func30 #[.int .i64 a0, .int .i64 (-4), .int .i64 4] ?_; (with_reducible refine (impl_in.calls a0 (-4) 4 t101 _ A2.out).mono ?_); rintro e w' ⟨rfl, ⟨nd, rfl⟩⟩; refine ⟨_, rfl, ?_⟩))
  go_ret
  exact ⟨by first | rfl | (simp; done) | (simp [*]; done), dq⟩

/-! ### impl_WeightOf: function 28 -/
def impl_WeightOf.f (a0 : Int) : Option (Int) := (impl_NiceOk.f a0).bind fun t101 => (if t101 = true then ((some (([1, 2, 3, 4, 6, 8, 12, 16, 24] : List Int) : List Int)).bind fun y102 => (if 0 ≤ (wrap64 (4 - a0)) then (if (wrap64 (4 - a0)) < (y102.length : Int) then (some (rd y102 (wrap64 (4 - a0)))) else (none)) else (none))) else (some 0))
set_option maxHeartbeats 8000000 in
set_option maxRecDepth 100000 in
theorem impl_WeightOf.calls (a0 : Int) (r : Int) (w : World) (h : impl_WeightOf.f a0 = some r) :
    Calls Try.prog 28 #[.int .i64 a0] w fun e w' => e = .returned (.int .i64 r) ∧ Below w.heap.size w w' := by
  have HB := aM (Below.refl w.heap.size w)
  have H : ((impl_NiceOk.f a0).bind fun t101 => (if t101 = true then ((some (([1, 2, 3, 4, 6, 8, 12, 16, 24] : List Int) : List Int)).bind fun y102 => (if 0 ≤ (wrap64 (4 - a0)) then (if (wrap64 (4 - a0)) < (y102.length : Int) then (some (rd y102 (wrap64 (4 - a0)))) else (none)) else (none))) else (some 0))) = some r := h
  clear h
  replace H := Option.bind_eq_some_iff.mp H
  obtain ⟨t101, A20, H⟩ := H
  replace H : (if t101 = true then ((some (([1, 2, 3, 4, 6, 8, 12, 16, 24] : List Int) : List Int)).bind fun y102 => (if 0 ≤ (wrap64 (4 - a0)) then (if (wrap64 (4 - a0)) < (y102.length : Int) then (some (rd y102 (wrap64 (4 - a0)))) else (none)) else (none))) else (some 0)) = some r := H
  have A2 := Aside0.mk A20
  clear A20
  by_cases c3 : t101 = true
  · subst c3
    have H1 : ((some (([1, 2, 3, 4, 6, 8, 12, 16, 24] : List Int) : List Int)).bind fun y102 => (if 0 ≤ (wrap64 (4 - a0)) then (if (wrap64 (4 - a0)) < (y102.length : Int) then (some (rd y102 (wrap64 (4 - a0)))) else (none)) else (none))) = some r := by rw [if_pos rfl] at H; exact H
    clear H
    have H := H1
    clear H1
    obtain ⟨y102, hy102⟩ : ∃ y_ : List Int, y_ = (([1, 2, 3, 4, 6, 8, 12, 16, 24] : List Int)) := ⟨_, rfl⟩
    replace H : (if 0 ≤ (wrap64 (4 - a0)) then (if (wrap64 (4 - a0)) < (y102.length : Int) then (some (rd y102 (wrap64 (4 - a0)))) else (none)) else (none)) = some r := by first | (rw [hy102]; with_reducible exact H) | (have H2_ := (Option.bind_some _ _).symm.trans H; rw [hy102]; with_reducible exact H2_) | (have H2_ := (Option.bind_some _ _).symm.trans H; with_reducible exact H2_) | with_reducible exact H | (rw [hy102]; exact H) | exact H
    have Ny102 := Aside0.mk hy102
    clear hy102
    obtain ⟨ji4, hji4⟩ : ∃ j_ : Int, (wrap64 (4 - a0)) = j_ := ⟨_, rfl⟩
    replace H : (if 0 ≤ (ji4) then (if (ji4) < (y102.length : Int) then (some (rd y102 (ji4))) else (none)) else (none)) = some r := by first | (rw [hji4] at H; exact H) | (simp only [hji4] at H ⊢; exact H)
    (try rw [hji4] at A2)
    have hji4w : (IntKind.i64.wrap (4 - a0)) = ji4 := (i64_w _).trans hji4
    by_cases c5 : 0 ≤ (ji4)
    · rw [if_pos c5] at H
      have c5b0 : decide (0 ≤ (ji4)) = true := decide_eq_true c5
      clear c5
      by_cases c6 : (ji4) < (y102.length : Int)
      · rw [if_pos c6] at H
        have c6b0 : decide ((ji4) < (y102.length : Int)) = true := decide_eq_true c6
        clear c6
        obtain rfl := Option.some.inj H
        go_enter Try.func28, Try.ntmps28
        go_wp2_with (first | ((with_reducible refine gate_callee (f := 27) rfl ?_); refine gL (some 4) Try.func27 #[.int .i64 a0] ?_; (with_reducible refine (impl_NiceOk.calls a0 true _ A2.out).mono ?_); rintro e w' ⟨rfl, ⟨nd, rfl⟩⟩; refine ⟨_, rfl, ?_⟩) | ((with_reducible refine gate_dst (N := 6) rfl ?_); refine Kd.R_lit (Kd.int .i64) _ 3 ?hg (N := 6) ?hd (xs := ([1, 2, 3, 4, 6, 8, 12, 16, 24] : List Int)) (inner := [.int .i64 1, .int .i64 2, .int .i64 3, .int .i64 4, .int .i64 6, .int .i64 8, .int .i64 12, .int .i64 16, .int .i64 24]) (ok := fun _ => True) (okp := fun _ => True) ?hr ?hp (fun _ hk => hk) trivial (Below.refl _ _) (Nat.le_refl _) (by simp) ?_; (case hd => rfl); (case hg => rfl); (case hr => first | (go_simp; done) | (go_simp; rfl)); (case hp => exact (Reps.one (show Kd.M (Kd.int .i64) _ _ _ 1 [.int .i64 1] from rfl) (Reps.one (show Kd.M (Kd.int .i64) _ _ _ 2 [.int .i64 2] from rfl) (Reps.one (show Kd.M (Kd.int .i64) _ _ _ 3 [.int .i64 3] from rfl) (Reps.one (show Kd.M (Kd.int .i64) _ _ _ 4 [.int .i64 4] from rfl) (Reps.one (show Kd.M (Kd.int .i64) _ _ _ 6 [.int .i64 6] from rfl) (Reps.one (show Kd.M (Kd.int .i64) _ _ _ 8 [.int .i64 8] from rfl) (Reps.one (show Kd.M (Kd.int .i64) _ _ _ 12 [.int .i64 12] from rfl) (Reps.one (show Kd.M (Kd.int .i64) _ _ _ 16 [.int .i64 16] from rfl) (Reps.one (show Kd.M (Kd.int .i64) _ _ _ 24 [.int .i64 24] from rfl) (Reps.none _ _))))))))))); intro v103 w7 ho8 hb hg_ hnew_; clear hg_ hnew_; (first | rw [← Ny102.out] at ho8 | (simp only [Int.reduceToNat] at ho8; rw [← Ny102.out] at ho8)); have n0_ := aM (Kd.R_lower ho8 (below_size (bq HB))); have n1_ := aM (below_step (bq HB) hb); clear HB; have HO104 := n0_; have HB := n1_; clear n0_ n1_; clear hb ho8; obtain ⟨Ao9, co9, eo9⟩ := Kd.R_slice HO104.out; subst eo9; have p105 : 0 ≤ ((ji4) : Int) := dA; have q105 : (ji4) < (y102.length : Int) := dA; obtain ⟨ad105, e105, hx105_0⟩ := Kd.at_int (Kd.R_reads' HO104.out).2.2 (ji4) p105 q105; cases e105; replace p105 := eq_true p105; replace q105 := eq_true q105))
        go_ret
        exact ⟨by first | rfl | (simp [errW_none, errW_some] <;> rfl) | (simp only [← hji4]; first | rfl | (simp [errW_none, errW_some] <;> rfl)) | (simp [*, errW_none, errW_some] <;> rfl), bq HB⟩
      rw [if_neg c6] at H
      exact absurd H (by simp)
    rw [if_neg c5] at H
    exact absurd H (by simp)
  replace c3 := Bool.eq_false_iff.mpr c3
  subst c3
  have H1 : (some 0) = some r := by rw [if_neg (show ¬ (false = true) by decide)] at H; exact H
  clear H
  have H := H1
  clear H1
  obtain rfl := Option.some.inj H
  go_enter Try.func28, Try.ntmps28
  go_wp2_with (first | ((with_reducible refine gate_callee (f := 27) rfl ?_); refine gL (some 4) Try.func27 #[.int .i64 a0] ?_; (with_reducible refine (impl_NiceOk.calls a0 false _ A2.out).mono ?_); rintro e w' ⟨rfl, ⟨nd, rfl⟩⟩; refine ⟨_, rfl, ?_⟩))
  go_ret
  exact ⟨sR, bq HB⟩

/-! ### impl_StepOf: function 11 -/
def impl_StepOf.f (a0 : Int) : Option (Int) := (impl_NiceOk.f a0).bind fun t101 => (if t101 = true then ((impl_WeightOf.f a0).bind fun t102 => (if t102 = 0 then (none) else (some (wrap64 (Int.tdiv (48 : Int) t102))))) else (some 0))
set_option maxHeartbeats 8000000 in
set_option maxRecDepth 100000 in
theorem impl_StepOf.calls (a0 : Int) (r : Int) (w : World) (h : impl_StepOf.f a0 = some r) :
    Calls Try.prog 11 #[.int .i64 a0] w fun e w' => e = .returned (.int .i64 r) ∧ Below w.heap.size w w' := by
  have HB := aM (Below.refl w.heap.size w)
  have H : ((impl_NiceOk.f a0).bind fun t101 => (if t101 = true then ((impl_WeightOf.f a0).bind fun t102 => (if t102 = 0 then (none) else (some (wrap64 (Int.tdiv (48 : Int) t102))))) else (some 0))) = some r := h
  clear h
  replace H := Option.bind_eq_some_iff.mp H
  obtain ⟨t101, A20, H⟩ := H
  replace H : (if t101 = true then ((impl_WeightOf.f a0).bind fun t102 => (if t102 = 0 then (none) else (some (wrap64 (Int.tdiv (48 : Int) t102))))) else (some 0)) = some r := H
  have A2 := Aside0.mk A20
  clear A20
  by_cases c3 : t101 = true
  · subst c3
    have H1 : ((impl_WeightOf.f a0).bind fun t102 => (if t102 = 0 then (none) else (some (wrap64 (Int.tdiv (48 : Int) t102))))) = some r := by rw [if_pos rfl] at H; exact H
    clear H
    have H := H1
    clear H1
    replace H := Option.bind_eq_some_iff.mp H
    obtain ⟨t102, A40, H⟩ := H
    replace H : (if t102 = 0 then (none) else (some (wrap64 (Int.tdiv (48 : Int) t102)))) = some r := H
    have A4 := Aside0.mk A40
    clear A40
    by_cases c5 : t102 = 0
    · rw [if_pos c5] at H
      exact absurd H (by simp)
    rw [if_neg c5] at H
    have c5b0 : (t102 == 0) = false := beq_eq_false_iff_ne.mpr c5
    have c5b1 : (t102 != 0) = true := bne_iff_ne.mpr c5
    obtain rfl := Option.some.inj H
    go_enter Try.func11, Try.ntmps11
    go_wp2_with (first | ((with_reducible refine gate_callee (f := 27) rfl ?_); refine gL (some 4) Try.func27 #[.int .i64 a0] ?_; (with_reducible refine (impl_NiceOk.calls a0 true _ A2.out).mono ?_); rintro e w' ⟨rfl, ⟨nd, rfl⟩⟩; refine ⟨_, rfl, ?_⟩) | ((with_reducible refine gate_callee (f := 28) rfl ?_); refine gL (some 7) Try.func28 #[.int .i64 a0] ?_; (with_reducible refine (impl_WeightOf.calls a0 t102 _ A4.out).mono ?_); rintro e w6 ⟨rfl, hb⟩; refine ⟨_, rfl, ?_⟩; have n0_ := aM (below_step (bq HB) hb); clear HB; have HB := n0_; clear n0_; (try clear hb); (try clear hb2); (try clear hk); (try clear hi)))
    go_ret
    exact ⟨sR, bq HB⟩
  replace c3 := Bool.eq_false_iff.mpr c3
  subst c3
  have H1 : (some 0) = some r := by rw [if_neg (show ¬ (false = true) by decide)] at H; exact H
  clear H
  have H := H1
  clear H1
  obtain rfl := Option.some.inj H
  go_enter Try.func11, Try.ntmps11
  go_wp2_with (first | ((with_reducible refine gate_callee (f := 27) rfl ?_); refine gL (some 4) Try.func27 #[.int .i64 a0] ?_; (with_reducible refine (impl_NiceOk.calls a0 false _ A2.out).mono ?_); rintro e w' ⟨rfl, ⟨nd, rfl⟩⟩; refine ⟨_, rfl, ?_⟩))
  go_ret
  exact ⟨sR, bq HB⟩

/-! ### impl_isNo: function 29 -/
def impl_isNo.f (a0 : Int) : Option (Bool) := (impl_in.f a0 1 1000).bind fun t101 => (some t101)
set_option maxHeartbeats 8000000 in
set_option maxRecDepth 100000 in
theorem impl_isNo.calls (a0 : Int) (r : Bool) (w : World) (h : impl_isNo.f a0 = some r) :
    Calls Try.prog 29 #[.int .i64 a0] w fun e w' => e = .returned (.bool r) ∧ Drawn0 w w' := by
  have H : ((impl_in.f a0 1 1000).bind fun t101 => (some t101)) = some r := h
  clear h
  replace H := Option.bind_eq_some_iff.mp H
  obtain ⟨t101, A20, H⟩ := H
  replace H : (some t101) = some r := H
  have A2 := Aside0.mk A20
  clear A20
  obtain rfl := Option.some.inj H
  go_enter Try.func29, Try.ntmps29
  go_wp2_with (first | ((with_reducible refine gate_callee (f := 30) rfl ?_); refine gL (some 4) Try.func30 #[.int .i64 a0, .int .i64 1, .int .i64 1000] ?_; (with_reducible refine (impl_in.calls a0 1 1000 t101 _ A2.out).mono ?_); rintro e w' ⟨rfl, ⟨nd, rfl⟩⟩; refine ⟨_, rfl, ?_⟩))
  go_ret
  exact ⟨by first | rfl | (simp; done) | (simp [*]; done), dq⟩

/-! ### impl_ShareOk: function 31 -/
def impl_ShareOk.f (a0_0 : Int) (a0_1 : Int) : Option (Bool) := (impl_in.f a0_1 1 40).bind fun t102 => (if t102 = true then ((impl_in.f a0_0 1 a0_1).bind fun t103 => (some t103)) else (some false))
set_option maxHeartbeats 8000000 in
set_option maxRecDepth 100000 in
theorem impl_ShareOk.calls (a0_0 : Int) (a0_1 : Int) (r : Bool) (w : World) (h : impl_ShareOk.f a0_0 a0_1 = some r) :
    Calls Try.prog 31 #[.agg #[.int .i64 a0_0, .int .i64 a0_1]] w fun e w' => e = .returned (.bool r) ∧ Below w.heap.size w w' := by
  have hu40 := Try.underlying40
  have HB := aM (Below.refl w.heap.size w)
  have H : ((impl_in.f a0_1 1 40).bind fun t102 => (if t102 = true then ((impl_in.f a0_0 1 a0_1).bind fun t103 => (some t103)) else (some false))) = some r := h
  clear h
  replace H := Option.bind_eq_some_iff.mp H
  obtain ⟨t102, A20, H⟩ := H
  replace H : (if t102 = true then ((impl_in.f a0_0 1 a0_1).bind fun t103 => (some t103)) else (some false)) = some r := H
  have A2 := Aside0.mk A20
  clear A20
  by_cases c3 : t102 = true
  · subst c3
    have H1 : ((impl_in.f a0_0 1 a0_1).bind fun t103 => (some t103)) = some r := by rw [if_pos rfl] at H; exact H
    clear H
    have H := H1
    clear H1
    replace H := Option.bind_eq_some_iff.mp H
    obtain ⟨t103, A40, H⟩ := H
    replace H : (some t103) = some r := H
    have A4 := Aside0.mk A40
    clear A40
    obtain rfl := Option.some.inj H
    go_enter Try.func31, Try.ntmps31
    go_wp2_with (first | ((with_reducible refine gate_dst (N := 1) rfl ?_); refine bE (N := 1) (cs := #[.int .i64 a0_0, .int .i64 a0_1]) (t := 40) ?_; intro gb101 hg w5 hbox hb; have n0_ := aM (below_step (bq HB) hb); have n1_ := aM (hbox); have n2_ := aM ((by rw [hg]; exact (below_size (bq HB)) : w.heap.size ≤ gb101)); have n3_ := n2_; clear HB; have HB := n0_; have BK101 := n1_; have GW101 := n2_; have GE101 := n3_; clear n0_ n1_ n2_ n3_; clear hb hbox hg; obtain ⟨_,_⟩ := cz2 BK101.out; have hfz6_0 := blk_frozen BK101.out) | ((with_reducible refine gate_callee (f := 30) rfl ?_); refine gL (some 5) Try.func30 #[.int .i64 a0_1, .int .i64 1, .int .i64 40] ?_; (with_reducible refine (impl_in.calls a0_1 1 40 true _ A2.out).mono ?_); rintro e w' ⟨rfl, ⟨nd, rfl⟩⟩; refine ⟨_, rfl, ?_⟩) | (go_at_call 30; (with_reducible refine (impl_in.calls a0_0 1 a0_1 t103 _ A4.out).mono ?_); rintro e w' ⟨rfl, ⟨nd, rfl⟩⟩))
    go_ret
    exact ⟨sR, bq HB⟩
  replace c3 := Bool.eq_false_iff.mpr c3
  subst c3
  have H1 : (some false) = some r := by rw [if_neg (show ¬ (false = true) by decide)] at H; exact H
  clear H
  have H := H1
  clear H1
  obtain rfl := Option.some.inj H
  go_enter Try.func31, Try.ntmps31
  go_wp2_with (first | ((with_reducible refine gate_dst (N := 1) rfl ?_); refine bE (N := 1) (cs := #[.int .i64 a0_0, .int .i64 a0_1]) (t := 40) ?_; intro gb101 hg w7 hbox hb; have n0_ := aM (below_step (bq HB) hb); have n1_ := aM (hbox); have n2_ := aM ((by rw [hg]; exact (below_size (bq HB)) : w.heap.size ≤ gb101)); have n3_ := n2_; clear HB; have HB := n0_; have BK101 := n1_; have GW101 := n2_; have GE101 := n3_; clear n0_ n1_ n2_ n3_; clear hb hbox hg; obtain ⟨_,_⟩ := cz2 BK101.out; have hfz8_0 := blk_frozen BK101.out) | ((with_reducible refine gate_callee (f := 30) rfl ?_); refine gL (some 5) Try.func30 #[.int .i64 a0_1, .int .i64 1, .int .i64 40] ?_; (with_reducible refine (impl_in.calls a0_1 1 40 false _ A2.out).mono ?_); rintro e w' ⟨rfl, ⟨nd, rfl⟩⟩; refine ⟨_, rfl, ?_⟩))
  go_ret
  exact ⟨sR, bq HB⟩

/-! ### impl_isUntil: function 32 -/
def impl_isUntil.f (a0 : Int) : Option (Bool) := (impl_in.f a0 0 100040).bind fun t101 => (some t101)
set_option maxHeartbeats 8000000 in
set_option maxRecDepth 100000 in
theorem impl_isUntil.calls (a0 : Int) (r : Bool) (w : World) (h : impl_isUntil.f a0 = some r) :
    Calls Try.prog 32 #[.int .i64 a0] w fun e w' => e = .returned (.bool r) ∧ Drawn0 w w' := by
  have H : ((impl_in.f a0 0 100040).bind fun t101 => (some t101)) = some r := h
  clear h
  replace H := Option.bind_eq_some_iff.mp H
  obtain ⟨t101, A20, H⟩ := H
  replace H : (some t101) = some r := H
  have A2 := Aside0.mk A20
  clear A20
  obtain rfl := Option.some.inj H
  go_enter Try.func32, Try.ntmps32
  go_wp2_with (first | ((with_reducible refine gate_callee (f := 30) rfl ?_); refine gL (some 4) Try.func30 #[.int .i64 a0, .int .i64 0, .int .i64 100040] ?_; (with_reducible refine (impl_in.calls a0 0 100040 t101 _ A2.out).mono ?_); rintro e w' ⟨rfl, ⟨nd, rfl⟩⟩; refine ⟨_, rfl, ?_⟩))
  go_ret
  exact ⟨by first | rfl | (simp; done) | (simp [*]; done), dq⟩

/-! ### impl_isSeq: function 33 -/
def impl_isSeq.f (a0 : Int) : Option (Bool) := (impl_in.f a0 0 1000000).bind fun t101 => (some t101)
set_option maxHeartbeats 8000000 in
set_option maxRecDepth 100000 in
theorem impl_isSeq.calls (a0 : Int) (r : Bool) (w : World) (h : impl_isSeq.f a0 = some r) :
    Calls Try.prog 33 #[.int .i64 a0] w fun e w' => e = .returned (.bool r) ∧ Drawn0 w w' := by
  have H : ((impl_in.f a0 0 1000000).bind fun t101 => (some t101)) = some r := h
  clear h
  replace H := Option.bind_eq_some_iff.mp H
  obtain ⟨t101, A20, H⟩ := H
  replace H : (some t101) = some r := H
  have A2 := Aside0.mk A20
  clear A20
  obtain rfl := Option.some.inj H
  go_enter Try.func33, Try.ntmps33
  go_wp2_with (first | ((with_reducible refine gate_callee (f := 30) rfl ?_); refine gL (some 4) Try.func30 #[.int .i64 a0, .int .i64 0, .int .i64 1000000] ?_; (with_reducible refine (impl_in.calls a0 0 1000000 t101 _ A2.out).mono ?_); rintro e w' ⟨rfl, ⟨nd, rfl⟩⟩; refine ⟨_, rfl, ?_⟩))
  go_ret
  exact ⟨by first | rfl | (simp; done) | (simp [*]; done), dq⟩

end Go.Proofs.Ytlneecichgimpaa.Print
