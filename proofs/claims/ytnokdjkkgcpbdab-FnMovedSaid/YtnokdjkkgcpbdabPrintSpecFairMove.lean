/- Go functions as plain Lean functions, and that the Go code answers just as these, wherever they answer. Conditions: those of each theorem. Written by a program of this session (wip/patch.py). -/
import Derived.Test.YtnokdjkkgcpbdabPrint0
import Derived.Test.YtnokdjkkgcpbdabPrintSpecL1In
import Derived.Test.YtnokdjkkgcpbdabPrintSpecL1Max
import Derived.Test.YtnokdjkkgcpbdabPrintSpecL6Fair
namespace Go.Proofs.Ytnokdjkkgcpbdab.Print
open Go.RowKit Go.Proofs.Ytnokdjkkgcpbdab.Base Go.Proofs.YtnokdjkkgcpbdabW.PrintWords Go.Proofs.YtnokdjkkgcpbdabW.PrintLast Go.Proofs.YtnokdjkkgcpbdabW.PrintMore
attribute [local go_sem] max2_int min2_int max_two min_two max_three min_three max_four min_four   -- for this text's walks alone
set_option linter.unusedVariables false
set_option linter.unusedSimpArgs false

/-! ### spec_FairMove: function 58 -/
def spec_FairMove.j0 : Nat → Int → Int → Int → Bool → Int → Int → Int → Int → Bool → Int → Int → Int → Int → Int → Int → Int → Int → Int → Option (Int × Int × Int × Int × Bool × Int × Int × Int × Int × Int × Int × Int × Int × Int)
  | 0, _, _, _, _, _, _, _, _, _, _, _, _, _, _, _, _, _, _ => none
  | k + 1, x1, x2, x3, x27, x102000, x102001, x102002, x102003, x102004, x102005, x102006, x102007, x102008, x102009, x102010, x102011, x102012, x102013 => if x27 = true then (some (x102000, x102001, x102002, x102003, x102004, x102005, x102006, x102007, x102008, x102009, x102010, x102011, x102012, x102013)) else ((spec_l1Max.f (wrap64 (x102013 - x2)) 0).bind fun t107 => (if (wrap64 (x3 + t107)) > 100000000 then (some (x102000, x102001, x102002, x102003, x102004, x102005, x102006, x102007, x102008, x102009, x102010, x102011, x102012, x102013)) else (some (x102000, x102001, x1, x102003, x102004, x102005, x102006, x102007, x102008, x102009, x102010, x102011, x102012, wrap64 (x3 + t107)))))
def spec_FairMove.f (k : Nat) (a0_0 : Int) (a0_1 : Int) (a0_2 : Int) (a0_3 : Int) (a0_4 : Bool) (a0_5 : Int) (a0_6 : Int) (a0_7 : Int) (a0_8 : Int) (a0_9 : Int) (a0_10 : Int) (a0_11 : Int) (a0_12 : Int) (a0_13 : Int) (a1 : Int) (a2 : Int) (a3 : Int) : Option (Int × Int × Int × Int × Bool × Int × Int × Int × Int × Int × Int × Int × Int × Int) := (spec_l6Fair.f a0_0 a0_1 a0_2 a0_3 a0_4 a0_5 a0_6 a0_7 a0_8 a0_9 a0_10 a0_11 a0_12 a0_13).bind fun t103 => (if t103 = true then ((spec_l1In.f a1 0 3).bind fun t104 => (if t104 = true then ((spec_l1In.f a2 0 100000000).bind fun t105 => (if t105 = true then ((spec_l1In.f a3 0 100000000).bind fun t106 => (spec_FairMove.j0 k a1 a2 a3 (!t106) a0_0 a0_1 a0_2 a0_3 a0_4 a0_5 a0_6 a0_7 a0_8 a0_9 a0_10 a0_11 a0_12 a0_13)) else (spec_FairMove.j0 k a1 a2 a3 true a0_0 a0_1 a0_2 a0_3 a0_4 a0_5 a0_6 a0_7 a0_8 a0_9 a0_10 a0_11 a0_12 a0_13))) else (spec_FairMove.j0 k a1 a2 a3 true a0_0 a0_1 a0_2 a0_3 a0_4 a0_5 a0_6 a0_7 a0_8 a0_9 a0_10 a0_11 a0_12 a0_13))) else (spec_FairMove.j0 k a1 a2 a3 true a0_0 a0_1 a0_2 a0_3 a0_4 a0_5 a0_6 a0_7 a0_8 a0_9 a0_10 a0_11 a0_12 a0_13))
theorem spec_FairMove.mono_l : ∀ k, (∀ y0 y1 y2 y3 y4 y5 y6 y7 y8 y9 y10 y11 y12 y13 y14 y15 y16 y17, LeO (spec_FairMove.j0 k y0 y1 y2 y3 y4 y5 y6 y7 y8 y9 y10 y11 y12 y13 y14 y15 y16 y17) (spec_FairMove.j0 (k + 1) y0 y1 y2 y3 y4 y5 y6 y7 y8 y9 y10 y11 y12 y13 y14 y15 y16 y17))
  | 0 => fun _ _ _ _ _ _ _ _ _ _ _ _ _ _ _ _ _ _ r h => by simp [spec_FairMove.j0] at h
  | k + 1 => by
    have ih0 := spec_FairMove.mono_l k
    intro y0 y1 y2 y3 y4 y5 y6 y7 y8 y9 y10 y11 y12 y13 y14 y15 y16 y17
    unfold spec_FairMove.j0
    repeat' first
    | (with_reducible exact ih0 _ _ _ _ _ _ _ _ _ _ _ _ _ _ _ _ _ _)
    | (with_reducible exact LeO.refl _)
    | (with_reducible exact LeO.none _)
    | (with_reducible refine LeO.ite ?_ ?_)
    | (with_reducible refine LeO.bind ?_ (fun _ => ?_))
    | exact ih0 _ _ _ _ _ _ _ _ _ _ _ _ _ _ _ _ _ _
    | exact LeO.none _
    | refine LeO.ite ?_ ?_
    | refine LeO.bind ?_ (fun _ => ?_)
theorem spec_FairMove.mono : ∀ a0 a1 a2 a3 a4 a5 a6 a7 a8 a9 a10 a11 a12 a13 a14 a15 a16 k, LeO (spec_FairMove.f k a0 a1 a2 a3 a4 a5 a6 a7 a8 a9 a10 a11 a12 a13 a14 a15 a16) (spec_FairMove.f (k + 1) a0 a1 a2 a3 a4 a5 a6 a7 a8 a9 a10 a11 a12 a13 a14 a15 a16) := by
  intro a0 a1 a2 a3 a4 a5 a6 a7 a8 a9 a10 a11 a12 a13 a14 a15 a16 k
  have ih0 := spec_FairMove.mono_l k
  unfold spec_FairMove.f
  repeat' first
      | (with_reducible exact ih0 _ _ _ _ _ _ _ _ _ _ _ _ _ _ _ _ _ _)
      | (with_reducible exact LeO.refl _)
      | (with_reducible exact LeO.none _)
      | (with_reducible refine LeO.ite ?_ ?_)
      | (with_reducible refine LeO.bind ?_ (fun _ => ?_))
      | exact ih0 _ _ _ _ _ _ _ _ _ _ _ _ _ _ _ _ _ _
      | exact LeO.none _
      | refine LeO.ite ?_ ?_
      | refine LeO.bind ?_ (fun _ => ?_)
set_option maxHeartbeats 8000000 in
set_option maxRecDepth 100000 in
theorem spec_FairMove.calls (k : Nat) (a0_0 : Int) (a0_1 : Int) (a0_2 : Int) (a0_3 : Int) (a0_4 : Bool) (a0_5 : Int) (a0_6 : Int) (a0_7 : Int) (a0_8 : Int) (a0_9 : Int) (a0_10 : Int) (a0_11 : Int) (a0_12 : Int) (a0_13 : Int) (a1 : Int) (a2 : Int) (a3 : Int) (r1 : Int) (r2 : Int) (r3 : Int) (r4 : Int) (r5 : Bool) (r6 : Int) (r7 : Int) (r8 : Int) (r9 : Int) (r10 : Int) (r11 : Int) (r12 : Int) (r13 : Int) (r14 : Int) (w : World) (h : spec_FairMove.f k a0_0 a0_1 a0_2 a0_3 a0_4 a0_5 a0_6 a0_7 a0_8 a0_9 a0_10 a0_11 a0_12 a0_13 a1 a2 a3 = some (r1, r2, r3, r4, r5, r6, r7, r8, r9, r10, r11, r12, r13, r14)) :
    Calls Try.prog 58 #[.agg #[.int .i64 a0_0, .int .i64 a0_1, .int .i64 a0_2, .int .i64 a0_3, .bool a0_4, .int .i64 a0_5, .int .i64 a0_6, .int .i64 a0_7, .int .i64 a0_8, .int .i64 a0_9, .int .i64 a0_10, .int .i64 a0_11, .int .i64 a0_12, .int .i64 a0_13], .int .i64 a1, .int .i64 a2, .int .i64 a3] w fun e w' => e = .returned (.agg #[.int .i64 r1, .int .i64 r2, .int .i64 r3, .int .i64 r4, .bool r5, .int .i64 r6, .int .i64 r7, .int .i64 r8, .int .i64 r9, .int .i64 r10, .int .i64 r11, .int .i64 r12, .int .i64 r13, .int .i64 r14]) ∧ Below w.heap.size w w' := by
  have hu24 := Try.underlying24
  have HB := aM (Below.refl w.heap.size w)
  have H : ((spec_l6Fair.f a0_0 a0_1 a0_2 a0_3 a0_4 a0_5 a0_6 a0_7 a0_8 a0_9 a0_10 a0_11 a0_12 a0_13).bind fun t103 => (if t103 = true then ((spec_l1In.f a1 0 3).bind fun t104 => (if t104 = true then ((spec_l1In.f a2 0 100000000).bind fun t105 => (if t105 = true then ((spec_l1In.f a3 0 100000000).bind fun t106 => (spec_FairMove.j0 k a1 a2 a3 (!t106) a0_0 a0_1 a0_2 a0_3 a0_4 a0_5 a0_6 a0_7 a0_8 a0_9 a0_10 a0_11 a0_12 a0_13)) else (spec_FairMove.j0 k a1 a2 a3 true a0_0 a0_1 a0_2 a0_3 a0_4 a0_5 a0_6 a0_7 a0_8 a0_9 a0_10 a0_11 a0_12 a0_13))) else (spec_FairMove.j0 k a1 a2 a3 true a0_0 a0_1 a0_2 a0_3 a0_4 a0_5 a0_6 a0_7 a0_8 a0_9 a0_10 a0_11 a0_12 a0_13))) else (spec_FairMove.j0 k a1 a2 a3 true a0_0 a0_1 a0_2 a0_3 a0_4 a0_5 a0_6 a0_7 a0_8 a0_9 a0_10 a0_11 a0_12 a0_13))) = some (r1, r2, r3, r4, r5, r6, r7, r8, r9, r10, r11, r12, r13, r14) := h
  clear h
  have HC5 := Aside0.mk H
  clear H
  go_enter Try.func58, Try.ntmps58
  go_upto_region 1 with (first | ((with_reducible refine gate_dst (N := 4) rfl ?_); refine box_event ?hg (N := 4) ?hd (cs := tk14 a0_0 a0_1 a0_2 a0_3 a0_4 a0_5 a0_6 a0_7 a0_8 a0_9 a0_10 a0_11 a0_12 a0_13) (t := 24) ?hr ?_; (case hd => rfl); (case hg => rfl); (case hr => first | (go_simp; done) | (go_simp; rfl)); intro gb101 hg w6 hbox hb; have n0_ := aM (below_step (by repeat (first | (with_reducible first | exact HB.out | apply beA | apply beD | apply bed) | exact HB.out)) hb); have n1_ := aM (hbox); have n2_ := aM ((by rw [hg]; exact (below_size (by repeat (first | (with_reducible first | exact HB.out | apply beA | apply beD | apply bed) | exact HB.out))) : w.heap.size ≤ gb101)); have n3_ := n2_; clear HB; have HB := n0_; have BK101 := n1_; have GW101 := n2_; have GE101 := n3_; clear n0_ n1_ n2_ n3_; clear hb hbox hg) | ((with_reducible refine gate_dst (N := 8) rfl ?_); refine box_event ?hg (N := 8) ?hd (cs := tk14 0 0 0 0 false 0 0 0 0 0 0 0 0 0) (t := 24) ?hr ?_; (case hd => rfl); (case hg => rfl); (case hr => first | (go_simp; done) | (go_simp; rfl)); intro gb102 hg w7 hbox hb; have n0_ := aM (blk_below (g := gb101) (o := .cells (tk14 a0_0 a0_1 a0_2 a0_3 a0_4 a0_5 a0_6 a0_7 a0_8 a0_9 a0_10 a0_11 a0_12 a0_13) 24 (0, 0)) (by (with_reducible repeat (first | apply bkD | apply bkd | apply bkA)); exact BK101.out) hb); have n1_ := aM (below_step (by repeat (first | (with_reducible first | exact HB.out | apply beA | apply beD | apply bed | refine beS ?_ GE101.out) | exact HB.out)) hb); have n2_ := aM (hbox); have n3_ := aM ((by rw [hg]; exact (below_size (by repeat (first | (with_reducible first | exact HB.out | apply beA | apply beD | apply bed | refine beS ?_ GE101.out) | exact HB.out))) : w.heap.size ≤ gb102)); have n4_ := n3_; have n5_ := aM ((by rw [hg]; exact Nat.ne_of_lt (blk_lt (g := gb101) (o := .cells (tk14 a0_0 a0_1 a0_2 a0_3 a0_4 a0_5 a0_6 a0_7 a0_8 a0_9 a0_10 a0_11 a0_12 a0_13) 24 (0, 0)) (by (with_reducible repeat (first | apply bkD | apply bkd | apply bkA)); exact BK101.out)) : gb101 ≠ gb102)); have n6_ := aM (n5_.out.symm); clear BK101; clear HB; have BK101 := n0_; have HB := n1_; have BK102 := n2_; have GW102 := n3_; have GE102 := n4_; have NB101_102 := n5_; have NB102_101 := n6_; clear n0_ n1_ n2_ n3_ n4_ n5_ n6_; clear hb hbox hg))
  (try simp only [Act.put, List.setIfInBounds_toArray, List.set_cons_zero, List.set_cons_succ])
  go_cut [27] (fun v27 wc => ∃ (kq : Nat) (x27_4 : Bool), v27 = .bool x27_4 ∧ Aside0 (spec_FairMove.j0 kq a1 a2 a3 x27_4 a0_0 a0_1 a0_2 a0_3 a0_4 a0_5 a0_6 a0_7 a0_8 a0_9 a0_10 a0_11 a0_12 a0_13 = some (r1, r2, r3, r4, r5, r6, r7, r8, r9, r10, r11, r12, r13, r14)) ∧ Aside0 (kq ≤ k) ∧ Aside0 (wc.heap[gb101]? = some (.cells #[.int .i64 a0_0, .int .i64 a0_1, .int .i64 a0_2, .int .i64 a0_3, .bool a0_4, .int .i64 a0_5, .int .i64 a0_6, .int .i64 a0_7, .int .i64 a0_8, .int .i64 a0_9, .int .i64 a0_10, .int .i64 a0_11, .int .i64 a0_12, .int .i64 a0_13] 24 (0, 0))) ∧ Aside0 (wc.heap[gb102]? = some (.cells #[.int .i64 0, .int .i64 0, .int .i64 0, .int .i64 0, .bool false, .int .i64 0, .int .i64 0, .int .i64 0, .int .i64 0, .int .i64 0, .int .i64 0, .int .i64 0, .int .i64 0, .int .i64 0] 24 (0, 0))) ∧ Aside0 (Below w.heap.size w wc))
  case first =>
    have H := HC5.out
    clear HC5
    replace H := Option.bind_eq_some_iff.mp H
    obtain ⟨t103, A80, H⟩ := H
    replace H : (if t103 = true then ((spec_l1In.f a1 0 3).bind fun t104 => (if t104 = true then ((spec_l1In.f a2 0 100000000).bind fun t105 => (if t105 = true then ((spec_l1In.f a3 0 100000000).bind fun t106 => (spec_FairMove.j0 k a1 a2 a3 (!t106) a0_0 a0_1 a0_2 a0_3 a0_4 a0_5 a0_6 a0_7 a0_8 a0_9 a0_10 a0_11 a0_12 a0_13)) else (spec_FairMove.j0 k a1 a2 a3 true a0_0 a0_1 a0_2 a0_3 a0_4 a0_5 a0_6 a0_7 a0_8 a0_9 a0_10 a0_11 a0_12 a0_13))) else (spec_FairMove.j0 k a1 a2 a3 true a0_0 a0_1 a0_2 a0_3 a0_4 a0_5 a0_6 a0_7 a0_8 a0_9 a0_10 a0_11 a0_12 a0_13))) else (spec_FairMove.j0 k a1 a2 a3 true a0_0 a0_1 a0_2 a0_3 a0_4 a0_5 a0_6 a0_7 a0_8 a0_9 a0_10 a0_11 a0_12 a0_13)) = some (r1, r2, r3, r4, r5, r6, r7, r8, r9, r10, r11, r12, r13, r14) := H
    have A8 := Aside0.mk A80
    clear A80
    by_cases c9 : t103 = true
    · subst c9
      have H1 : ((spec_l1In.f a1 0 3).bind fun t104 => (if t104 = true then ((spec_l1In.f a2 0 100000000).bind fun t105 => (if t105 = true then ((spec_l1In.f a3 0 100000000).bind fun t106 => (spec_FairMove.j0 k a1 a2 a3 (!t106) a0_0 a0_1 a0_2 a0_3 a0_4 a0_5 a0_6 a0_7 a0_8 a0_9 a0_10 a0_11 a0_12 a0_13)) else (spec_FairMove.j0 k a1 a2 a3 true a0_0 a0_1 a0_2 a0_3 a0_4 a0_5 a0_6 a0_7 a0_8 a0_9 a0_10 a0_11 a0_12 a0_13))) else (spec_FairMove.j0 k a1 a2 a3 true a0_0 a0_1 a0_2 a0_3 a0_4 a0_5 a0_6 a0_7 a0_8 a0_9 a0_10 a0_11 a0_12 a0_13))) = some (r1, r2, r3, r4, r5, r6, r7, r8, r9, r10, r11, r12, r13, r14) := by rw [if_pos rfl] at H; exact H
      clear H
      have H := H1
      clear H1
      replace H := Option.bind_eq_some_iff.mp H
      obtain ⟨t104, A100, H⟩ := H
      replace H : (if t104 = true then ((spec_l1In.f a2 0 100000000).bind fun t105 => (if t105 = true then ((spec_l1In.f a3 0 100000000).bind fun t106 => (spec_FairMove.j0 k a1 a2 a3 (!t106) a0_0 a0_1 a0_2 a0_3 a0_4 a0_5 a0_6 a0_7 a0_8 a0_9 a0_10 a0_11 a0_12 a0_13)) else (spec_FairMove.j0 k a1 a2 a3 true a0_0 a0_1 a0_2 a0_3 a0_4 a0_5 a0_6 a0_7 a0_8 a0_9 a0_10 a0_11 a0_12 a0_13))) else (spec_FairMove.j0 k a1 a2 a3 true a0_0 a0_1 a0_2 a0_3 a0_4 a0_5 a0_6 a0_7 a0_8 a0_9 a0_10 a0_11 a0_12 a0_13)) = some (r1, r2, r3, r4, r5, r6, r7, r8, r9, r10, r11, r12, r13, r14) := H
      have A10 := Aside0.mk A100
      clear A100
      by_cases c11 : t104 = true
      · subst c11
        have H1 : ((spec_l1In.f a2 0 100000000).bind fun t105 => (if t105 = true then ((spec_l1In.f a3 0 100000000).bind fun t106 => (spec_FairMove.j0 k a1 a2 a3 (!t106) a0_0 a0_1 a0_2 a0_3 a0_4 a0_5 a0_6 a0_7 a0_8 a0_9 a0_10 a0_11 a0_12 a0_13)) else (spec_FairMove.j0 k a1 a2 a3 true a0_0 a0_1 a0_2 a0_3 a0_4 a0_5 a0_6 a0_7 a0_8 a0_9 a0_10 a0_11 a0_12 a0_13))) = some (r1, r2, r3, r4, r5, r6, r7, r8, r9, r10, r11, r12, r13, r14) := by rw [if_pos rfl] at H; exact H
        clear H
        have H := H1
        clear H1
        replace H := Option.bind_eq_some_iff.mp H
        obtain ⟨t105, A120, H⟩ := H
        replace H : (if t105 = true then ((spec_l1In.f a3 0 100000000).bind fun t106 => (spec_FairMove.j0 k a1 a2 a3 (!t106) a0_0 a0_1 a0_2 a0_3 a0_4 a0_5 a0_6 a0_7 a0_8 a0_9 a0_10 a0_11 a0_12 a0_13)) else (spec_FairMove.j0 k a1 a2 a3 true a0_0 a0_1 a0_2 a0_3 a0_4 a0_5 a0_6 a0_7 a0_8 a0_9 a0_10 a0_11 a0_12 a0_13)) = some (r1, r2, r3, r4, r5, r6, r7, r8, r9, r10, r11, r12, r13, r14) := H
        have A12 := Aside0.mk A120
        clear A120
        by_cases c13 : t105 = true
        · subst c13
          have H1 : ((spec_l1In.f a3 0 100000000).bind fun t106 => (spec_FairMove.j0 k a1 a2 a3 (!t106) a0_0 a0_1 a0_2 a0_3 a0_4 a0_5 a0_6 a0_7 a0_8 a0_9 a0_10 a0_11 a0_12 a0_13)) = some (r1, r2, r3, r4, r5, r6, r7, r8, r9, r10, r11, r12, r13, r14) := by rw [if_pos rfl] at H; exact H
          clear H
          have H := H1
          clear H1
          replace H := Option.bind_eq_some_iff.mp H
          obtain ⟨t106, A140, H⟩ := H
          replace H : (spec_FairMove.j0 k a1 a2 a3 (!t106) a0_0 a0_1 a0_2 a0_3 a0_4 a0_5 a0_6 a0_7 a0_8 a0_9 a0_10 a0_11 a0_12 a0_13) = some (r1, r2, r3, r4, r5, r6, r7, r8, r9, r10, r11, r12, r13, r14) := H
          have A14 := Aside0.mk A140
          clear A140
          have H' := Aside0.mk H
          clear H
          have hnb15 := NB101_102.out
          have hnc15 := NB102_101.out
          obtain ⟨hcz16_0, hcz16_1, hcz16_2, hcz16_3, hcz16_4, hcz16_5, hcz16_6, hcz16_7, hcz16_8, hcz16_9, hcz16_10, hcz16_11, hcz16_12, hcz16_13⟩ := cz14 BK101.out
          have hfz16_0 := blk_frozen BK101.out
          go_wp2_with (first | ((with_reducible refine gate_callee (f := 65) rfl ?_); refine goesL_ (some 11) rfl rfl Try.func65 (by kernel_rfl) rfl #[.agg #[.int .i64 a0_0, .int .i64 a0_1, .int .i64 a0_2, .int .i64 a0_3, .bool a0_4, .int .i64 a0_5, .int .i64 a0_6, .int .i64 a0_7, .int .i64 a0_8, .int .i64 a0_9, .int .i64 a0_10, .int .i64 a0_11, .int .i64 a0_12, .int .i64 a0_13]] rfl (by (try simp only [List.map_toArray, List.map_cons, List.map_nil]); first | done | rfl | (simp only [List.length_drop, List.length_take]; rfl)) ?_; (with_reducible refine (spec_l6Fair.calls a0_0 a0_1 a0_2 a0_3 a0_4 a0_5 a0_6 a0_7 a0_8 a0_9 a0_10 a0_11 a0_12 a0_13 true _ A8.out).mono ?_); rintro e w17 ⟨rfl, hb⟩; refine ⟨_, rfl, ?_⟩; have n0_ := aM (blk_below (g := gb101) (o := .cells (tk14 a0_0 a0_1 a0_2 a0_3 a0_4 a0_5 a0_6 a0_7 a0_8 a0_9 a0_10 a0_11 a0_12 a0_13) 24 (0, 0)) (by (with_reducible repeat (first | apply bkD | apply bkd | apply bkA)); exact BK101.out) hb); have n1_ := aM (blk_below (g := gb102) (o := .cells (tk14 0 0 0 0 false 0 0 0 0 0 0 0 0 0) 24 (0, 0)) (by (with_reducible repeat (first | apply bkD | apply bkd | apply bkA)); exact BK102.out) hb); have n2_ := aM (below_step (by repeat (first | (with_reducible first | exact HB.out | apply beA | apply beD | apply bed | refine beS ?_ GE101.out | refine beS ?_ GE102.out) | exact HB.out)) hb); clear BK101; clear BK102; clear HB; have BK101 := n0_; have BK102 := n1_; have HB := n2_; clear n0_ n1_ n2_; (try clear hb); (try clear hb2); (try clear hk); (try clear hi)) | (go_at_call 76; (with_reducible refine (spec_l1In.calls a1 0 3 true _ A10.out).mono ?_); rintro e w' ⟨rfl, ⟨nd, rfl⟩⟩) | (go_at_call 76; (with_reducible refine (spec_l1In.calls a2 0 100000000 true _ A12.out).mono ?_); rintro e w' ⟨rfl, ⟨nd, rfl⟩⟩) | (go_at_call 76; (with_reducible refine (spec_l1In.calls a3 0 100000000 t106 _ A14.out).mono ?_); rintro e w' ⟨rfl, ⟨nd, rfl⟩⟩))
          go_meet
          case rel => exact ⟨_, (!t106), (by first | rfl | (simp; done) | (simp [*]; done)), H', ⟨by first | omega | exact Nat.le_refl _⟩, ⟨by (with_reducible repeat (first | apply bkD | apply bkd | apply bkA)); exact BK101.out⟩, ⟨by (with_reducible repeat (first | apply bkD | apply bkd | apply bkA)); exact BK102.out⟩, ⟨by repeat (first | (with_reducible first | exact HB.out | apply beA | apply beD | apply bed | refine beS ?_ GE101.out | refine beS ?_ GE102.out) | exact HB.out)⟩⟩
        replace c13 := Bool.eq_false_iff.mpr c13
        subst c13
        have H1 : (spec_FairMove.j0 k a1 a2 a3 true a0_0 a0_1 a0_2 a0_3 a0_4 a0_5 a0_6 a0_7 a0_8 a0_9 a0_10 a0_11 a0_12 a0_13) = some (r1, r2, r3, r4, r5, r6, r7, r8, r9, r10, r11, r12, r13, r14) := by rw [if_neg (show ¬ (false = true) by decide)] at H; exact H
        clear H
        have H := H1
        clear H1
        have H' := Aside0.mk H
        clear H
        have hnb18 := NB101_102.out
        have hnc18 := NB102_101.out
        obtain ⟨hcz19_0, hcz19_1, hcz19_2, hcz19_3, hcz19_4, hcz19_5, hcz19_6, hcz19_7, hcz19_8, hcz19_9, hcz19_10, hcz19_11, hcz19_12, hcz19_13⟩ := cz14 BK101.out
        have hfz19_0 := blk_frozen BK101.out
        go_wp2_with (first | ((with_reducible refine gate_callee (f := 65) rfl ?_); refine goesL_ (some 11) rfl rfl Try.func65 (by kernel_rfl) rfl #[.agg #[.int .i64 a0_0, .int .i64 a0_1, .int .i64 a0_2, .int .i64 a0_3, .bool a0_4, .int .i64 a0_5, .int .i64 a0_6, .int .i64 a0_7, .int .i64 a0_8, .int .i64 a0_9, .int .i64 a0_10, .int .i64 a0_11, .int .i64 a0_12, .int .i64 a0_13]] rfl (by (try simp only [List.map_toArray, List.map_cons, List.map_nil]); first | done | rfl | (simp only [List.length_drop, List.length_take]; rfl)) ?_; (with_reducible refine (spec_l6Fair.calls a0_0 a0_1 a0_2 a0_3 a0_4 a0_5 a0_6 a0_7 a0_8 a0_9 a0_10 a0_11 a0_12 a0_13 true _ A8.out).mono ?_); rintro e w20 ⟨rfl, hb⟩; refine ⟨_, rfl, ?_⟩; have n0_ := aM (blk_below (g := gb101) (o := .cells (tk14 a0_0 a0_1 a0_2 a0_3 a0_4 a0_5 a0_6 a0_7 a0_8 a0_9 a0_10 a0_11 a0_12 a0_13) 24 (0, 0)) (by (with_reducible repeat (first | apply bkD | apply bkd | apply bkA)); exact BK101.out) hb); have n1_ := aM (blk_below (g := gb102) (o := .cells (tk14 0 0 0 0 false 0 0 0 0 0 0 0 0 0) 24 (0, 0)) (by (with_reducible repeat (first | apply bkD | apply bkd | apply bkA)); exact BK102.out) hb); have n2_ := aM (below_step (by repeat (first | (with_reducible first | exact HB.out | apply beA | apply beD | apply bed | refine beS ?_ GE101.out | refine beS ?_ GE102.out) | exact HB.out)) hb); clear BK101; clear BK102; clear HB; have BK101 := n0_; have BK102 := n1_; have HB := n2_; clear n0_ n1_ n2_; (try clear hb); (try clear hb2); (try clear hk); (try clear hi)) | (go_at_call 76; (with_reducible refine (spec_l1In.calls a1 0 3 true _ A10.out).mono ?_); rintro e w' ⟨rfl, ⟨nd, rfl⟩⟩) | (go_at_call 76; (with_reducible refine (spec_l1In.calls a2 0 100000000 false _ A12.out).mono ?_); rintro e w' ⟨rfl, ⟨nd, rfl⟩⟩))
        go_meet
        case rel => exact ⟨_, (true), (by first | rfl | (simp; done) | (simp [*]; done)), H', ⟨by first | omega | exact Nat.le_refl _⟩, ⟨by (with_reducible repeat (first | apply bkD | apply bkd | apply bkA)); exact BK101.out⟩, ⟨by (with_reducible repeat (first | apply bkD | apply bkd | apply bkA)); exact BK102.out⟩, ⟨by repeat (first | (with_reducible first | exact HB.out | apply beA | apply beD | apply bed | refine beS ?_ GE101.out | refine beS ?_ GE102.out) | exact HB.out)⟩⟩
      replace c11 := Bool.eq_false_iff.mpr c11
      subst c11
      have H1 : (spec_FairMove.j0 k a1 a2 a3 true a0_0 a0_1 a0_2 a0_3 a0_4 a0_5 a0_6 a0_7 a0_8 a0_9 a0_10 a0_11 a0_12 a0_13) = some (r1, r2, r3, r4, r5, r6, r7, r8, r9, r10, r11, r12, r13, r14) := by rw [if_neg (show ¬ (false = true) by decide)] at H; exact H
      clear H
      have H := H1
      clear H1
      have H' := Aside0.mk H
      clear H
      have hnb21 := NB101_102.out
      have hnc21 := NB102_101.out
      obtain ⟨hcz22_0, hcz22_1, hcz22_2, hcz22_3, hcz22_4, hcz22_5, hcz22_6, hcz22_7, hcz22_8, hcz22_9, hcz22_10, hcz22_11, hcz22_12, hcz22_13⟩ := cz14 BK101.out
      have hfz22_0 := blk_frozen BK101.out
      go_wp2_with (first | ((with_reducible refine gate_callee (f := 65) rfl ?_); refine goesL_ (some 11) rfl rfl Try.func65 (by kernel_rfl) rfl #[.agg #[.int .i64 a0_0, .int .i64 a0_1, .int .i64 a0_2, .int .i64 a0_3, .bool a0_4, .int .i64 a0_5, .int .i64 a0_6, .int .i64 a0_7, .int .i64 a0_8, .int .i64 a0_9, .int .i64 a0_10, .int .i64 a0_11, .int .i64 a0_12, .int .i64 a0_13]] rfl (by (try simp only [List.map_toArray, List.map_cons, List.map_nil]); first | done | rfl | (simp only [List.length_drop, List.length_take]; rfl)) ?_; (with_reducible refine (spec_l6Fair.calls a0_0 a0_1 a0_2 a0_3 a0_4 a0_5 a0_6 a0_7 a0_8 a0_9 a0_10 a0_11 a0_12 a0_13 true _ A8.out).mono ?_); rintro e w23 ⟨rfl, hb⟩; refine ⟨_, rfl, ?_⟩; have n0_ := aM (blk_below (g := gb101) (o := .cells (tk14 a0_0 a0_1 a0_2 a0_3 a0_4 a0_5 a0_6 a0_7 a0_8 a0_9 a0_10 a0_11 a0_12 a0_13) 24 (0, 0)) (by (with_reducible repeat (first | apply bkD | apply bkd | apply bkA)); exact BK101.out) hb); have n1_ := aM (blk_below (g := gb102) (o := .cells (tk14 0 0 0 0 false 0 0 0 0 0 0 0 0 0) 24 (0, 0)) (by (with_reducible repeat (first | apply bkD | apply bkd | apply bkA)); exact BK102.out) hb); have n2_ := aM (below_step (by repeat (first | (with_reducible first | exact HB.out | apply beA | apply beD | apply bed | refine beS ?_ GE101.out | refine beS ?_ GE102.out) | exact HB.out)) hb); clear BK101; clear BK102; clear HB; have BK101 := n0_; have BK102 := n1_; have HB := n2_; clear n0_ n1_ n2_; (try clear hb); (try clear hb2); (try clear hk); (try clear hi)) | (go_at_call 76; (with_reducible refine (spec_l1In.calls a1 0 3 false _ A10.out).mono ?_); rintro e w' ⟨rfl, ⟨nd, rfl⟩⟩))
      go_meet
      case rel => exact ⟨_, (true), (by first | rfl | (simp; done) | (simp [*]; done)), H', ⟨by first | omega | exact Nat.le_refl _⟩, ⟨by (with_reducible repeat (first | apply bkD | apply bkd | apply bkA)); exact BK101.out⟩, ⟨by (with_reducible repeat (first | apply bkD | apply bkd | apply bkA)); exact BK102.out⟩, ⟨by repeat (first | (with_reducible first | exact HB.out | apply beA | apply beD | apply bed | refine beS ?_ GE101.out | refine beS ?_ GE102.out) | exact HB.out)⟩⟩
    replace c9 := Bool.eq_false_iff.mpr c9
    subst c9
    have H1 : (spec_FairMove.j0 k a1 a2 a3 true a0_0 a0_1 a0_2 a0_3 a0_4 a0_5 a0_6 a0_7 a0_8 a0_9 a0_10 a0_11 a0_12 a0_13) = some (r1, r2, r3, r4, r5, r6, r7, r8, r9, r10, r11, r12, r13, r14) := by rw [if_neg (show ¬ (false = true) by decide)] at H; exact H
    clear H
    have H := H1
    clear H1
    have H' := Aside0.mk H
    clear H
    have hnb24 := NB101_102.out
    have hnc24 := NB102_101.out
    obtain ⟨hcz25_0, hcz25_1, hcz25_2, hcz25_3, hcz25_4, hcz25_5, hcz25_6, hcz25_7, hcz25_8, hcz25_9, hcz25_10, hcz25_11, hcz25_12, hcz25_13⟩ := cz14 BK101.out
    have hfz25_0 := blk_frozen BK101.out
    go_wp2_with (first | ((with_reducible refine gate_callee (f := 65) rfl ?_); refine goesL_ (some 11) rfl rfl Try.func65 (by kernel_rfl) rfl #[.agg #[.int .i64 a0_0, .int .i64 a0_1, .int .i64 a0_2, .int .i64 a0_3, .bool a0_4, .int .i64 a0_5, .int .i64 a0_6, .int .i64 a0_7, .int .i64 a0_8, .int .i64 a0_9, .int .i64 a0_10, .int .i64 a0_11, .int .i64 a0_12, .int .i64 a0_13]] rfl (by (try simp only [List.map_toArray, List.map_cons, List.map_nil]); first | done | rfl | (simp only [List.length_drop, List.length_take]; rfl)) ?_; (with_reducible refine (spec_l6Fair.calls a0_0 a0_1 a0_2 a0_3 a0_4 a0_5 a0_6 a0_7 a0_8 a0_9 a0_10 a0_11 a0_12 a0_13 false _ A8.out).mono ?_); rintro e w26 ⟨rfl, hb⟩; refine ⟨_, rfl, ?_⟩; have n0_ := aM (blk_below (g := gb101) (o := .cells (tk14 a0_0 a0_1 a0_2 a0_3 a0_4 a0_5 a0_6 a0_7 a0_8 a0_9 a0_10 a0_11 a0_12 a0_13) 24 (0, 0)) (by (with_reducible repeat (first | apply bkD | apply bkd | apply bkA)); exact BK101.out) hb); have n1_ := aM (blk_below (g := gb102) (o := .cells (tk14 0 0 0 0 false 0 0 0 0 0 0 0 0 0) 24 (0, 0)) (by (with_reducible repeat (first | apply bkD | apply bkd | apply bkA)); exact BK102.out) hb); have n2_ := aM (below_step (by repeat (first | (with_reducible first | exact HB.out | apply beA | apply beD | apply bed | refine beS ?_ GE101.out | refine beS ?_ GE102.out) | exact HB.out)) hb); clear BK101; clear BK102; clear HB; have BK101 := n0_; have BK102 := n1_; have HB := n2_; clear n0_ n1_ n2_; (try clear hb); (try clear hb2); (try clear hk); (try clear hi)))
    go_meet
    case rel => exact ⟨_, (true), (by first | rfl | (simp; done) | (simp [*]; done)), H', ⟨by first | omega | exact Nat.le_refl _⟩, ⟨by (with_reducible repeat (first | apply bkD | apply bkd | apply bkA)); exact BK101.out⟩, ⟨by (with_reducible repeat (first | apply bkD | apply bkd | apply bkA)); exact BK102.out⟩, ⟨by repeat (first | (with_reducible first | exact HB.out | apply beA | apply beD | apply bed | refine beS ?_ GE101.out | refine beS ?_ GE102.out) | exact HB.out)⟩⟩
  case rest =>
    clear HC5
    try clear c1
    try clear c2
    try clear p2
    try clear c5
    try clear c6
    try clear c9
    try clear c11
    try clear c13
    try clear c15
    try clear c18
    try clear c21
    try clear c24
    try clear hcz16_0
    try clear hcz16_1
    try clear hcz16_10
    try clear hcz16_11
    try clear hcz16_12
    try clear hcz16_13
    try clear hcz16_2
    try clear hcz16_3
    try clear hcz16_4
    try clear hcz16_5
    try clear hcz16_6
    try clear hcz16_7
    try clear hcz16_8
    try clear hcz16_9
    try clear hcz19_0
    try clear hcz19_1
    try clear hcz19_10
    try clear hcz19_11
    try clear hcz19_12
    try clear hcz19_13
    try clear hcz19_2
    try clear hcz19_3
    try clear hcz19_4
    try clear hcz19_5
    try clear hcz19_6
    try clear hcz19_7
    try clear hcz19_8
    try clear hcz19_9
    try clear hcz22_0
    try clear hcz22_1
    try clear hcz22_10
    try clear hcz22_11
    try clear hcz22_12
    try clear hcz22_13
    try clear hcz22_2
    try clear hcz22_3
    try clear hcz22_4
    try clear hcz22_5
    try clear hcz22_6
    try clear hcz22_7
    try clear hcz22_8
    try clear hcz22_9
    try clear hcz25_0
    try clear hcz25_1
    try clear hcz25_10
    try clear hcz25_11
    try clear hcz25_12
    try clear hcz25_13
    try clear hcz25_2
    try clear hcz25_3
    try clear hcz25_4
    try clear hcz25_5
    try clear hcz25_6
    try clear hcz25_7
    try clear hcz25_8
    try clear hcz25_9
    try clear hfz16_0
    try clear hfz19_0
    try clear hfz22_0
    try clear hfz25_0
    obtain ⟨kq, x27_4, rfl, HA, HJ4, BK101, BK102, HB⟩ := hcut
    cases kq with
    | zero => exact absurd HA.out (by simp [spec_FairMove.j0])
    | succ kj4 =>
      have H := HA.out
      clear HA
      simp only [spec_FairMove.j0] at H
      by_cases c27 : x27_4 = true
      · subst c27
        have H1 : (some (a0_0, a0_1, a0_2, a0_3, a0_4, a0_5, a0_6, a0_7, a0_8, a0_9, a0_10, a0_11, a0_12, a0_13)) = some (r1, r2, r3, r4, r5, r6, r7, r8, r9, r10, r11, r12, r13, r14) := by rw [if_pos rfl] at H; exact H
        clear H
        have H := H1
        clear H1
        simp only [Option.some.injEq, Prod.mk.injEq] at H
        obtain ⟨rfl, rfl, rfl, rfl, rfl, rfl, rfl, rfl, rfl, rfl, rfl, rfl, rfl, rfl⟩ := H
        have hnb28 := NB101_102.out
        have hnc28 := NB102_101.out
        obtain ⟨hcz29_0, hcz29_1, hcz29_2, hcz29_3, hcz29_4, hcz29_5, hcz29_6, hcz29_7, hcz29_8, hcz29_9, hcz29_10, hcz29_11, hcz29_12, hcz29_13⟩ := cz14 BK101.out
        have hfz29_0 := blk_frozen BK101.out
        obtain ⟨hcz30_0, hcz30_1, hcz30_2, hcz30_3, hcz30_4, hcz30_5, hcz30_6, hcz30_7, hcz30_8, hcz30_9, hcz30_10, hcz30_11, hcz30_12, hcz30_13⟩ := cz14 BK102.out
        have hfz30_0 := blk_frozen BK102.out
        go_wp2
        refine bodyPost_ret (results_cell_row rfl _ _ gb102 24 #[.int .i64 a0_0, .int .i64 a0_1, .int .i64 a0_2, .int .i64 a0_3, .bool a0_4, .int .i64 a0_5, .int .i64 a0_6, .int .i64 a0_7, .int .i64 a0_8, .int .i64 a0_9, .int .i64 a0_10, .int .i64 a0_11, .int .i64 a0_12, .int .i64 a0_13] (0, 0) _ rfl (by (with_reducible repeat (first | apply bkD | apply bkd | apply bkA)); refine blk_put (cs := tk14 a0_0 a0_1 a0_2 a0_3 a0_4 a0_5 a0_6 a0_7 a0_8 a0_9 a0_10 a0_11 a0_12 0) ?_ 13 _ rfl; (with_reducible repeat (first | apply bkD | apply bkd | apply bkA)); refine blk_put (cs := tk14 a0_0 a0_1 a0_2 a0_3 a0_4 a0_5 a0_6 a0_7 a0_8 a0_9 a0_10 a0_11 0 0) ?_ 12 _ rfl; (with_reducible repeat (first | apply bkD | apply bkd | apply bkA)); refine blk_put (cs := tk14 a0_0 a0_1 a0_2 a0_3 a0_4 a0_5 a0_6 a0_7 a0_8 a0_9 a0_10 0 0 0) ?_ 11 _ rfl; (with_reducible repeat (first | apply bkD | apply bkd | apply bkA)); refine blk_put (cs := tk14 a0_0 a0_1 a0_2 a0_3 a0_4 a0_5 a0_6 a0_7 a0_8 a0_9 0 0 0 0) ?_ 10 _ rfl; (with_reducible repeat (first | apply bkD | apply bkd | apply bkA)); refine blk_put (cs := tk14 a0_0 a0_1 a0_2 a0_3 a0_4 a0_5 a0_6 a0_7 a0_8 0 0 0 0 0) ?_ 9 _ rfl; (with_reducible repeat (first | apply bkD | apply bkd | apply bkA)); refine blk_put (cs := tk14 a0_0 a0_1 a0_2 a0_3 a0_4 a0_5 a0_6 a0_7 0 0 0 0 0 0) ?_ 8 _ rfl; (with_reducible repeat (first | apply bkD | apply bkd | apply bkA)); refine blk_put (cs := tk14 a0_0 a0_1 a0_2 a0_3 a0_4 a0_5 a0_6 0 0 0 0 0 0 0) ?_ 7 _ rfl; (with_reducible repeat (first | apply bkD | apply bkd | apply bkA)); refine blk_put (cs := tk14 a0_0 a0_1 a0_2 a0_3 a0_4 a0_5 0 0 0 0 0 0 0 0) ?_ 6 _ rfl; (with_reducible repeat (first | apply bkD | apply bkd | apply bkA)); refine blk_put (cs := tk14 a0_0 a0_1 a0_2 a0_3 a0_4 0 0 0 0 0 0 0 0 0) ?_ 5 _ rfl; (with_reducible repeat (first | apply bkD | apply bkd | apply bkA)); refine blk_put (cs := tk14 a0_0 a0_1 a0_2 a0_3 false 0 0 0 0 0 0 0 0 0) ?_ 4 _ rfl; (with_reducible repeat (first | apply bkD | apply bkd | apply bkA)); refine blk_put (cs := tk14 a0_0 a0_1 a0_2 0 false 0 0 0 0 0 0 0 0 0) ?_ 3 _ rfl; (with_reducible repeat (first | apply bkD | apply bkd | apply bkA)); refine blk_put (cs := tk14 a0_0 a0_1 0 0 false 0 0 0 0 0 0 0 0 0) ?_ 2 _ rfl; (with_reducible repeat (first | apply bkD | apply bkd | apply bkA)); refine blk_put (cs := tk14 a0_0 0 0 0 false 0 0 0 0 0 0 0 0 0) ?_ 1 _ rfl; (with_reducible repeat (first | apply bkD | apply bkd | apply bkA)); refine blk_put (cs := tk14 0 0 0 0 false 0 0 0 0 0 0 0 0 0) ?_ 0 _ rfl; (with_reducible repeat (first | apply bkD | apply bkd | apply bkA)); exact BK102.out) Try.underlying24 rfl (by kernel_rfl)) rfl ?_
        exact ⟨by first | rfl | (simp <;> rfl) | (simp [*] <;> rfl), by repeat (first | (with_reducible first | exact HB.out | apply beA | apply beD | apply bed | refine beS ?_ GE101.out | refine beS ?_ GE102.out) | exact HB.out)⟩
      replace c27 := Bool.eq_false_iff.mpr c27
      subst c27
      have H1 : ((spec_l1Max.f (wrap64 (a0_13 - a2)) 0).bind fun t107 => (if (wrap64 (a3 + t107)) > 100000000 then (some (a0_0, a0_1, a0_2, a0_3, a0_4, a0_5, a0_6, a0_7, a0_8, a0_9, a0_10, a0_11, a0_12, a0_13)) else (some (a0_0, a0_1, a1, a0_3, a0_4, a0_5, a0_6, a0_7, a0_8, a0_9, a0_10, a0_11, a0_12, wrap64 (a3 + t107))))) = some (r1, r2, r3, r4, r5, r6, r7, r8, r9, r10, r11, r12, r13, r14) := by rw [if_neg (show ¬ (false = true) by decide)] at H; exact H
      clear H
      have H := H1
      clear H1
      replace H := Option.bind_eq_some_iff.mp H
      obtain ⟨t107, A310, H⟩ := H
      replace H : (if (wrap64 (a3 + t107)) > 100000000 then (some (a0_0, a0_1, a0_2, a0_3, a0_4, a0_5, a0_6, a0_7, a0_8, a0_9, a0_10, a0_11, a0_12, a0_13)) else (some (a0_0, a0_1, a1, a0_3, a0_4, a0_5, a0_6, a0_7, a0_8, a0_9, a0_10, a0_11, a0_12, wrap64 (a3 + t107)))) = some (r1, r2, r3, r4, r5, r6, r7, r8, r9, r10, r11, r12, r13, r14) := H
      have A31 := Aside0.mk A310
      clear A310
      by_cases c32 : (wrap64 (a3 + t107)) > 100000000
      · rw [if_pos c32] at H
        have c32b0 : decide (100000000 < (wrap64 (a3 + t107))) = true := decide_eq_true c32
        clear c32
        simp only [Option.some.injEq, Prod.mk.injEq] at H
        obtain ⟨rfl, rfl, rfl, rfl, rfl, rfl, rfl, rfl, rfl, rfl, rfl, rfl, rfl, rfl⟩ := H
        have hnb33 := NB101_102.out
        have hnc33 := NB102_101.out
        obtain ⟨hcz34_0, hcz34_1, hcz34_2, hcz34_3, hcz34_4, hcz34_5, hcz34_6, hcz34_7, hcz34_8, hcz34_9, hcz34_10, hcz34_11, hcz34_12, hcz34_13⟩ := cz14 BK101.out
        have hfz34_0 := blk_frozen BK101.out
        go_wp2_with (first | ((with_reducible refine gate_callee (f := 67) rfl ?_); refine goesL_ (some 34) rfl rfl Try.func67 (by kernel_rfl) rfl #[.int .i64 (wrap64 (a0_13 - a2)), .int .i64 0] rfl (by (try simp only [List.map_toArray, List.map_cons, List.map_nil]); first | done | rfl | (simp only [List.length_drop, List.length_take]; rfl)) ?_; (with_reducible refine (spec_l1Max.calls (wrap64 (a0_13 - a2)) 0 t107 _ A31.out).mono ?_); rintro e w' ⟨rfl, ⟨nd, rfl⟩⟩; refine ⟨_, rfl, ?_⟩; (try (rw [drewN_self wc]; generalize hq_ : World.drewN wc _ = wc; have n0_ : Aside0 (wc.heap[gb101]? = some (.cells #[.int .i64 a0_0, .int .i64 a0_1, .int .i64 a0_2, .int .i64 a0_3, .bool a0_4, .int .i64 a0_5, .int .i64 a0_6, .int .i64 a0_7, .int .i64 a0_8, .int .i64 a0_9, .int .i64 a0_10, .int .i64 a0_11, .int .i64 a0_12, .int .i64 a0_13] 24 (0, 0))) := ⟨by rw [← hq_]; exact (by (with_reducible repeat (first | apply bkD | apply bkd | apply bkA)); exact BK101.out)⟩; have n1_ : Aside0 (wc.heap[gb102]? = some (.cells #[.int .i64 0, .int .i64 0, .int .i64 0, .int .i64 0, .bool false, .int .i64 0, .int .i64 0, .int .i64 0, .int .i64 0, .int .i64 0, .int .i64 0, .int .i64 0, .int .i64 0, .int .i64 0] 24 (0, 0))) := ⟨by rw [← hq_]; exact (by (with_reducible repeat (first | apply bkD | apply bkd | apply bkA)); exact BK102.out)⟩; have n2_ : Aside0 (Below w.heap.size w wc) := ⟨by rw [← hq_]; exact (by repeat (first | (with_reducible first | exact HB.out | apply beA | apply beD | apply bed | refine beS ?_ GE101.out | refine beS ?_ GE102.out) | exact HB.out))⟩; clear BK101 BK102 HB hq_; have BK101 := n0_; have BK102 := n1_; have HB := n2_; clear n0_ n1_ n2_)); obtain ⟨hcz34_0, hcz34_1, hcz34_2, hcz34_3, hcz34_4, hcz34_5, hcz34_6, hcz34_7, hcz34_8, hcz34_9, hcz34_10, hcz34_11, hcz34_12, hcz34_13⟩ := cz14 BK101.out; have hfz34_0 := blk_frozen BK101.out; obtain ⟨hcz35_0, hcz35_1, hcz35_2, hcz35_3, hcz35_4, hcz35_5, hcz35_6, hcz35_7, hcz35_8, hcz35_9, hcz35_10, hcz35_11, hcz35_12, hcz35_13⟩ := cz14 BK102.out; have hfz35_0 := blk_frozen BK102.out))
        refine bodyPost_ret (results_cell_row rfl _ _ gb102 24 #[.int .i64 a0_0, .int .i64 a0_1, .int .i64 a0_2, .int .i64 a0_3, .bool a0_4, .int .i64 a0_5, .int .i64 a0_6, .int .i64 a0_7, .int .i64 a0_8, .int .i64 a0_9, .int .i64 a0_10, .int .i64 a0_11, .int .i64 a0_12, .int .i64 a0_13] (0, 0) _ rfl (by (with_reducible repeat (first | apply bkD | apply bkd | apply bkA)); refine blk_put (cs := tk14 a0_0 a0_1 a0_2 a0_3 a0_4 a0_5 a0_6 a0_7 a0_8 a0_9 a0_10 a0_11 a0_12 0) ?_ 13 _ rfl; (with_reducible repeat (first | apply bkD | apply bkd | apply bkA)); refine blk_put (cs := tk14 a0_0 a0_1 a0_2 a0_3 a0_4 a0_5 a0_6 a0_7 a0_8 a0_9 a0_10 a0_11 0 0) ?_ 12 _ rfl; (with_reducible repeat (first | apply bkD | apply bkd | apply bkA)); refine blk_put (cs := tk14 a0_0 a0_1 a0_2 a0_3 a0_4 a0_5 a0_6 a0_7 a0_8 a0_9 a0_10 0 0 0) ?_ 11 _ rfl; (with_reducible repeat (first | apply bkD | apply bkd | apply bkA)); refine blk_put (cs := tk14 a0_0 a0_1 a0_2 a0_3 a0_4 a0_5 a0_6 a0_7 a0_8 a0_9 0 0 0 0) ?_ 10 _ rfl; (with_reducible repeat (first | apply bkD | apply bkd | apply bkA)); refine blk_put (cs := tk14 a0_0 a0_1 a0_2 a0_3 a0_4 a0_5 a0_6 a0_7 a0_8 0 0 0 0 0) ?_ 9 _ rfl; (with_reducible repeat (first | apply bkD | apply bkd | apply bkA)); refine blk_put (cs := tk14 a0_0 a0_1 a0_2 a0_3 a0_4 a0_5 a0_6 a0_7 0 0 0 0 0 0) ?_ 8 _ rfl; (with_reducible repeat (first | apply bkD | apply bkd | apply bkA)); refine blk_put (cs := tk14 a0_0 a0_1 a0_2 a0_3 a0_4 a0_5 a0_6 0 0 0 0 0 0 0) ?_ 7 _ rfl; (with_reducible repeat (first | apply bkD | apply bkd | apply bkA)); refine blk_put (cs := tk14 a0_0 a0_1 a0_2 a0_3 a0_4 a0_5 0 0 0 0 0 0 0 0) ?_ 6 _ rfl; (with_reducible repeat (first | apply bkD | apply bkd | apply bkA)); refine blk_put (cs := tk14 a0_0 a0_1 a0_2 a0_3 a0_4 0 0 0 0 0 0 0 0 0) ?_ 5 _ rfl; (with_reducible repeat (first | apply bkD | apply bkd | apply bkA)); refine blk_put (cs := tk14 a0_0 a0_1 a0_2 a0_3 false 0 0 0 0 0 0 0 0 0) ?_ 4 _ rfl; (with_reducible repeat (first | apply bkD | apply bkd | apply bkA)); refine blk_put (cs := tk14 a0_0 a0_1 a0_2 0 false 0 0 0 0 0 0 0 0 0) ?_ 3 _ rfl; (with_reducible repeat (first | apply bkD | apply bkd | apply bkA)); refine blk_put (cs := tk14 a0_0 a0_1 0 0 false 0 0 0 0 0 0 0 0 0) ?_ 2 _ rfl; (with_reducible repeat (first | apply bkD | apply bkd | apply bkA)); refine blk_put (cs := tk14 a0_0 0 0 0 false 0 0 0 0 0 0 0 0 0) ?_ 1 _ rfl; (with_reducible repeat (first | apply bkD | apply bkd | apply bkA)); refine blk_put (cs := tk14 0 0 0 0 false 0 0 0 0 0 0 0 0 0) ?_ 0 _ rfl; (with_reducible repeat (first | apply bkD | apply bkd | apply bkA)); exact BK102.out) Try.underlying24 rfl (by kernel_rfl)) rfl ?_
        exact ⟨by first | rfl | (simp <;> rfl) | (simp [*] <;> rfl), by repeat (first | (with_reducible first | exact HB.out | apply beA | apply beD | apply bed | refine beS ?_ GE101.out | refine beS ?_ GE102.out) | exact HB.out)⟩
      rw [if_neg c32] at H
      have c32b0 : decide (100000000 < (wrap64 (a3 + t107))) = false := decide_eq_false c32
      clear c32
      simp only [Option.some.injEq, Prod.mk.injEq] at H
      obtain ⟨rfl, rfl, rfl, rfl, rfl, rfl, rfl, rfl, rfl, rfl, rfl, rfl, rfl, rfl⟩ := H
      have hnb36 := NB101_102.out
      have hnc36 := NB102_101.out
      obtain ⟨hcz37_0, hcz37_1, hcz37_2, hcz37_3, hcz37_4, hcz37_5, hcz37_6, hcz37_7, hcz37_8, hcz37_9, hcz37_10, hcz37_11, hcz37_12, hcz37_13⟩ := cz14 BK101.out
      have hfz37_0 := blk_frozen BK101.out
      go_wp2_with (first | ((with_reducible refine gate_callee (f := 67) rfl ?_); refine goesL_ (some 34) rfl rfl Try.func67 (by kernel_rfl) rfl #[.int .i64 (wrap64 (a0_13 - a2)), .int .i64 0] rfl (by (try simp only [List.map_toArray, List.map_cons, List.map_nil]); first | done | rfl | (simp only [List.length_drop, List.length_take]; rfl)) ?_; (with_reducible refine (spec_l1Max.calls (wrap64 (a0_13 - a2)) 0 t107 _ A31.out).mono ?_); rintro e w' ⟨rfl, ⟨nd, rfl⟩⟩; refine ⟨_, rfl, ?_⟩; (try (rw [drewN_self wc]; generalize hq_ : World.drewN wc _ = wc; have n0_ : Aside0 (wc.heap[gb101]? = some (.cells #[.int .i64 a0_0, .int .i64 a0_1, .int .i64 a0_2, .int .i64 a0_3, .bool a0_4, .int .i64 a0_5, .int .i64 a0_6, .int .i64 a0_7, .int .i64 a0_8, .int .i64 a0_9, .int .i64 a0_10, .int .i64 a0_11, .int .i64 a0_12, .int .i64 a0_13] 24 (0, 0))) := ⟨by rw [← hq_]; exact (by (with_reducible repeat (first | apply bkD | apply bkd | apply bkA)); exact BK101.out)⟩; have n1_ : Aside0 (wc.heap[gb102]? = some (.cells #[.int .i64 0, .int .i64 0, .int .i64 0, .int .i64 0, .bool false, .int .i64 0, .int .i64 0, .int .i64 0, .int .i64 0, .int .i64 0, .int .i64 0, .int .i64 0, .int .i64 0, .int .i64 0] 24 (0, 0))) := ⟨by rw [← hq_]; exact (by (with_reducible repeat (first | apply bkD | apply bkd | apply bkA)); exact BK102.out)⟩; have n2_ : Aside0 (Below w.heap.size w wc) := ⟨by rw [← hq_]; exact (by repeat (first | (with_reducible first | exact HB.out | apply beA | apply beD | apply bed | refine beS ?_ GE101.out | refine beS ?_ GE102.out) | exact HB.out))⟩; clear BK101 BK102 HB hq_; have BK101 := n0_; have BK102 := n1_; have HB := n2_; clear n0_ n1_ n2_)); obtain ⟨hcz37_0, hcz37_1, hcz37_2, hcz37_3, hcz37_4, hcz37_5, hcz37_6, hcz37_7, hcz37_8, hcz37_9, hcz37_10, hcz37_11, hcz37_12, hcz37_13⟩ := cz14 BK101.out; have hfz37_0 := blk_frozen BK101.out; obtain ⟨hcz38_0, hcz38_1, hcz38_2, hcz38_3, hcz38_4, hcz38_5, hcz38_6, hcz38_7, hcz38_8, hcz38_9, hcz38_10, hcz38_11, hcz38_12, hcz38_13⟩ := cz14 BK102.out; have hfz38_0 := blk_frozen BK102.out))
      refine bodyPost_ret (results_cell_row rfl _ _ gb102 24 #[.int .i64 a0_0, .int .i64 a0_1, .int .i64 a1, .int .i64 a0_3, .bool a0_4, .int .i64 a0_5, .int .i64 a0_6, .int .i64 a0_7, .int .i64 a0_8, .int .i64 a0_9, .int .i64 a0_10, .int .i64 a0_11, .int .i64 a0_12, .int .i64 (wrap64 (a3 + t107))] (0, 0) _ rfl (by (with_reducible repeat (first | apply bkD | apply bkd | apply bkA)); refine blk_put (cs := tk14 a0_0 a0_1 a1 a0_3 a0_4 a0_5 a0_6 a0_7 a0_8 a0_9 a0_10 a0_11 a0_12 0) ?_ 13 _ rfl; (with_reducible repeat (first | apply bkD | apply bkd | apply bkA)); refine blk_put (cs := tk14 a0_0 a0_1 a1 a0_3 a0_4 a0_5 a0_6 a0_7 a0_8 a0_9 a0_10 a0_11 0 0) ?_ 12 _ rfl; (with_reducible repeat (first | apply bkD | apply bkd | apply bkA)); refine blk_put (cs := tk14 a0_0 a0_1 a1 a0_3 a0_4 a0_5 a0_6 a0_7 a0_8 a0_9 a0_10 0 0 0) ?_ 11 _ rfl; (with_reducible repeat (first | apply bkD | apply bkd | apply bkA)); refine blk_put (cs := tk14 a0_0 a0_1 a1 a0_3 a0_4 a0_5 a0_6 a0_7 a0_8 a0_9 0 0 0 0) ?_ 10 _ rfl; (with_reducible repeat (first | apply bkD | apply bkd | apply bkA)); refine blk_put (cs := tk14 a0_0 a0_1 a1 a0_3 a0_4 a0_5 a0_6 a0_7 a0_8 0 0 0 0 0) ?_ 9 _ rfl; (with_reducible repeat (first | apply bkD | apply bkd | apply bkA)); refine blk_put (cs := tk14 a0_0 a0_1 a1 a0_3 a0_4 a0_5 a0_6 a0_7 0 0 0 0 0 0) ?_ 8 _ rfl; (with_reducible repeat (first | apply bkD | apply bkd | apply bkA)); refine blk_put (cs := tk14 a0_0 a0_1 a1 a0_3 a0_4 a0_5 a0_6 0 0 0 0 0 0 0) ?_ 7 _ rfl; (with_reducible repeat (first | apply bkD | apply bkd | apply bkA)); refine blk_put (cs := tk14 a0_0 a0_1 a1 a0_3 a0_4 a0_5 0 0 0 0 0 0 0 0) ?_ 6 _ rfl; (with_reducible repeat (first | apply bkD | apply bkd | apply bkA)); refine blk_put (cs := tk14 a0_0 a0_1 a1 a0_3 a0_4 0 0 0 0 0 0 0 0 0) ?_ 5 _ rfl; (with_reducible repeat (first | apply bkD | apply bkd | apply bkA)); refine blk_put (cs := tk14 a0_0 a0_1 a1 a0_3 false 0 0 0 0 0 0 0 0 0) ?_ 4 _ rfl; (with_reducible repeat (first | apply bkD | apply bkd | apply bkA)); refine blk_put (cs := tk14 a0_0 a0_1 a1 0 false 0 0 0 0 0 0 0 0 0) ?_ 3 _ rfl; (with_reducible repeat (first | apply bkD | apply bkd | apply bkA)); refine blk_put (cs := tk14 a0_0 a0_1 0 0 false 0 0 0 0 0 0 0 0 0) ?_ 2 _ rfl; (with_reducible repeat (first | apply bkD | apply bkd | apply bkA)); refine blk_put (cs := tk14 a0_0 0 0 0 false 0 0 0 0 0 0 0 0 0) ?_ 1 _ rfl; (with_reducible repeat (first | apply bkD | apply bkd | apply bkA)); refine blk_put (cs := tk14 0 0 0 0 false 0 0 0 0 0 0 0 0 0) ?_ 0 _ rfl; (with_reducible repeat (first | apply bkD | apply bkd | apply bkA)); refine blk_far ?_ NB102_101.out _; (with_reducible repeat (first | apply bkD | apply bkd | apply bkA)); refine blk_far ?_ NB102_101.out _; (with_reducible repeat (first | apply bkD | apply bkd | apply bkA)); exact BK102.out) Try.underlying24 rfl (by kernel_rfl)) rfl ?_
      exact ⟨by first | rfl | (simp <;> rfl) | (simp [*] <;> rfl), by repeat (first | (with_reducible first | exact HB.out | apply beA | apply beD | apply bed | refine beS ?_ GE101.out | refine beS ?_ GE102.out) | exact HB.out)⟩

end Go.Proofs.Ytnokdjkkgcpbdab.Print
