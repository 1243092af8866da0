/- Go functions as plain Lean functions, and that the Go code answers just as these, wherever they answer. Conditions: those of each theorem. Written by a program of this session (wip/patch.py). -/
import Derived.Test.YtbihinhckmfplaaPrint0
import Derived.Test.YtbihinhckmfplaaPrintLawsBig
import Derived.Test.YtbihinhckmfplaaPrintSpecL1In
import Derived.Test.YtbihinhckmfplaaPrintSpecShareOk
namespace Go.Proofs.Ytbihinhckmfplaa.Print
open Go.RowKit Go.Proofs.Ytbihinhckmfplaa.Base Go.Proofs.YtbihinhckmfplaaW.PrintWords Go.Proofs.YtbihinhckmfplaaW.PrintLast Go.Proofs.YtbihinhckmfplaaW.PrintMore
attribute [local go_sem] max2_int min2_int max_two min_two max_three min_three max_four min_four   -- for this text's walks alone
set_option linter.unusedVariables false
set_option linter.unusedSimpArgs false

/-! ### spec_NewDue: function 47 -/
def spec_NewDue.f (a0 : Int) (a1 : Int) (a2 : Int) (a3 : Int) (a4 : Int) : Option (Int × Int × Int × Int × Bool × Int × Int × Int × Int × Int × Int × Int × Int × Int × Bool) := (spec_l1In.f a4 0 100000).bind fun t102 => (if t102 = true then ((spec_ShareOk.f a2 a3).bind fun t103 => (if t103 = true then ((spec_l3New.f a0 1 a1 1 false a2 a3 a2 (wrap64 (a4 + a3)) 0 0 0 0 0).bind fun bt104 => (some (bt104.1, bt104.2.1, bt104.2.2.1, bt104.2.2.2.1, bt104.2.2.2.2.1, bt104.2.2.2.2.2.1, bt104.2.2.2.2.2.2.1, bt104.2.2.2.2.2.2.2.1, bt104.2.2.2.2.2.2.2.2.1, bt104.2.2.2.2.2.2.2.2.2.1, bt104.2.2.2.2.2.2.2.2.2.2.1, bt104.2.2.2.2.2.2.2.2.2.2.2.1, bt104.2.2.2.2.2.2.2.2.2.2.2.2.1, bt104.2.2.2.2.2.2.2.2.2.2.2.2.2.1, bt104.2.2.2.2.2.2.2.2.2.2.2.2.2.2))) else (some (0, 0, 0, 0, false, 0, 0, 0, 0, 0, 0, 0, 0, 0, false)))) else (some (0, 0, 0, 0, false, 0, 0, 0, 0, 0, 0, 0, 0, 0, false)))
set_option maxHeartbeats 8000000 in
set_option maxRecDepth 100000 in
theorem spec_NewDue.calls (a0 : Int) (a1 : Int) (a2 : Int) (a3 : Int) (a4 : Int) (r1 : Int) (r2 : Int) (r3 : Int) (r4 : Int) (r5 : Bool) (r6 : Int) (r7 : Int) (r8 : Int) (r9 : Int) (r10 : Int) (r11 : Int) (r12 : Int) (r13 : Int) (r14 : Int) (r15 : Bool) (w : World) (h : spec_NewDue.f a0 a1 a2 a3 a4 = some (r1, r2, r3, r4, r5, r6, r7, r8, r9, r10, r11, r12, r13, r14, r15)) :
    Calls Try.prog 47 #[.int .i64 a0, .int .i64 a1, .int .i64 a2, .int .i64 a3, .int .i64 a4] w fun e w' => e = .returned (.tuple #[.agg #[.int .i64 r1, .int .i64 r2, .int .i64 r3, .int .i64 r4, .bool r5, .int .i64 r6, .int .i64 r7, .int .i64 r8, .int .i64 r9, .int .i64 r10, .int .i64 r11, .int .i64 r12, .int .i64 r13, .int .i64 r14], .bool r15]) ∧ Below w.heap.size w w' := by
  have hu30 := Try.underlying30
  have hu52 := Try.underlying52
  have HB := aM (Below.refl w.heap.size w)
  have H : ((spec_l1In.f a4 0 100000).bind fun t102 => (if t102 = true then ((spec_ShareOk.f a2 a3).bind fun t103 => (if t103 = true then ((spec_l3New.f a0 1 a1 1 false a2 a3 a2 (wrap64 (a4 + a3)) 0 0 0 0 0).bind fun bt104 => (some (bt104.1, bt104.2.1, bt104.2.2.1, bt104.2.2.2.1, bt104.2.2.2.2.1, bt104.2.2.2.2.2.1, bt104.2.2.2.2.2.2.1, bt104.2.2.2.2.2.2.2.1, bt104.2.2.2.2.2.2.2.2.1, bt104.2.2.2.2.2.2.2.2.2.1, bt104.2.2.2.2.2.2.2.2.2.2.1, bt104.2.2.2.2.2.2.2.2.2.2.2.1, bt104.2.2.2.2.2.2.2.2.2.2.2.2.1, bt104.2.2.2.2.2.2.2.2.2.2.2.2.2.1, bt104.2.2.2.2.2.2.2.2.2.2.2.2.2.2))) else (some (0, 0, 0, 0, false, 0, 0, 0, 0, 0, 0, 0, 0, 0, false)))) else (some (0, 0, 0, 0, false, 0, 0, 0, 0, 0, 0, 0, 0, 0, false)))) = some (r1, r2, r3, r4, r5, r6, r7, r8, r9, r10, r11, r12, r13, r14, r15) := h
  clear h
  replace H := Option.bind_eq_some_iff.mp H
  obtain ⟨t102, A60, H⟩ := H
  replace H : (if t102 = true then ((spec_ShareOk.f a2 a3).bind fun t103 => (if t103 = true then ((spec_l3New.f a0 1 a1 1 false a2 a3 a2 (wrap64 (a4 + a3)) 0 0 0 0 0).bind fun bt104 => (some (bt104.1, bt104.2.1, bt104.2.2.1, bt104.2.2.2.1, bt104.2.2.2.2.1, bt104.2.2.2.2.2.1, bt104.2.2.2.2.2.2.1, bt104.2.2.2.2.2.2.2.1, bt104.2.2.2.2.2.2.2.2.1, bt104.2.2.2.2.2.2.2.2.2.1, bt104.2.2.2.2.2.2.2.2.2.2.1, bt104.2.2.2.2.2.2.2.2.2.2.2.1, bt104.2.2.2.2.2.2.2.2.2.2.2.2.1, bt104.2.2.2.2.2.2.2.2.2.2.2.2.2.1, bt104.2.2.2.2.2.2.2.2.2.2.2.2.2.2))) else (some (0, 0, 0, 0, false, 0, 0, 0, 0, 0, 0, 0, 0, 0, false)))) else (some (0, 0, 0, 0, false, 0, 0, 0, 0, 0, 0, 0, 0, 0, false))) = some (r1, r2, r3, r4, r5, r6, r7, r8, r9, r10, r11, r12, r13, r14, r15) := H
  have A6 := Aside0.mk A60
  clear A60
  by_cases c7 : t102 = true
  · subst c7
    have H1 : ((spec_ShareOk.f a2 a3).bind fun t103 => (if t103 = true then ((spec_l3New.f a0 1 a1 1 false a2 a3 a2 (wrap64 (a4 + a3)) 0 0 0 0 0).bind fun bt104 => (some (bt104.1, bt104.2.1, bt104.2.2.1, bt104.2.2.2.1, bt104.2.2.2.2.1, bt104.2.2.2.2.2.1, bt104.2.2.2.2.2.2.1, bt104.2.2.2.2.2.2.2.1, bt104.2.2.2.2.2.2.2.2.1, bt104.2.2.2.2.2.2.2.2.2.1, bt104.2.2.2.2.2.2.2.2.2.2.1, bt104.2.2.2.2.2.2.2.2.2.2.2.1, bt104.2.2.2.2.2.2.2.2.2.2.2.2.1, bt104.2.2.2.2.2.2.2.2.2.2.2.2.2.1, bt104.2.2.2.2.2.2.2.2.2.2.2.2.2.2))) else (some (0, 0, 0, 0, false, 0, 0, 0, 0, 0, 0, 0, 0, 0, false)))) = some (r1, r2, r3, r4, r5, r6, r7, r8, r9, r10, r11, r12, r13, r14, r15) := by rw [if_pos rfl] at H; exact H
    clear H
    have H := H1
    clear H1
    replace H := Option.bind_eq_some_iff.mp H
    obtain ⟨t103, A80, H⟩ := H
    replace H : (if t103 = true then ((spec_l3New.f a0 1 a1 1 false a2 a3 a2 (wrap64 (a4 + a3)) 0 0 0 0 0).bind fun bt104 => (some (bt104.1, bt104.2.1, bt104.2.2.1, bt104.2.2.2.1, bt104.2.2.2.2.1, bt104.2.2.2.2.2.1, bt104.2.2.2.2.2.2.1, bt104.2.2.2.2.2.2.2.1, bt104.2.2.2.2.2.2.2.2.1, bt104.2.2.2.2.2.2.2.2.2.1, bt104.2.2.2.2.2.2.2.2.2.2.1, bt104.2.2.2.2.2.2.2.2.2.2.2.1, bt104.2.2.2.2.2.2.2.2.2.2.2.2.1, bt104.2.2.2.2.2.2.2.2.2.2.2.2.2.1, bt104.2.2.2.2.2.2.2.2.2.2.2.2.2.2))) else (some (0, 0, 0, 0, false, 0, 0, 0, 0, 0, 0, 0, 0, 0, false))) = some (r1, r2, r3, r4, r5, r6, r7, r8, r9, r10, r11, r12, r13, r14, r15) := H
    have A8 := Aside0.mk A80
    clear A80
    by_cases c9 : t103 = true
    · subst c9
      have H1 : ((spec_l3New.f a0 1 a1 1 false a2 a3 a2 (wrap64 (a4 + a3)) 0 0 0 0 0).bind fun bt104 => (some (bt104.1, bt104.2.1, bt104.2.2.1, bt104.2.2.2.1, bt104.2.2.2.2.1, bt104.2.2.2.2.2.1, bt104.2.2.2.2.2.2.1, bt104.2.2.2.2.2.2.2.1, bt104.2.2.2.2.2.2.2.2.1, bt104.2.2.2.2.2.2.2.2.2.1, bt104.2.2.2.2.2.2.2.2.2.2.1, bt104.2.2.2.2.2.2.2.2.2.2.2.1, bt104.2.2.2.2.2.2.2.2.2.2.2.2.1, bt104.2.2.2.2.2.2.2.2.2.2.2.2.2.1, bt104.2.2.2.2.2.2.2.2.2.2.2.2.2.2))) = some (r1, r2, r3, r4, r5, r6, r7, r8, r9, r10, r11, r12, r13, r14, r15) := by rw [if_pos rfl] at H; exact H
      clear H
      have H := H1
      clear H1
      replace H := Option.bind_eq_some_iff.mp H
      obtain ⟨⟨t104, t105, t106, t107, t108, t109, t110, t111, t112, t113, t114, t115, t116, t117, t118⟩, A100, H⟩ := H
      replace H : (some (t104, t105, t106, t107, t108, t109, t110, t111, t112, t113, t114, t115, t116, t117, t118)) = some (r1, r2, r3, r4, r5, r6, r7, r8, r9, r10, r11, r12, r13, r14, r15) := H
      have A10 := Aside0.mk A100
      clear A100
      simp only [Option.some.injEq, Prod.mk.injEq] at H
      obtain ⟨rfl, rfl, rfl, rfl, rfl, rfl, rfl, rfl, rfl, rfl, rfl, rfl, rfl, rfl, rfl⟩ := H
      go_enter Try.func47, Try.ntmps47
      go_wp2_with (first | ((with_reducible refine gate_dst (N := 10) rfl ?_); refine box_event ?hg (N := 10) ?hd (cs := tk14 0 0 0 0 false 0 0 0 0 0 0 0 0 0) (t := 30) ?hr ?_; (case hd => rfl); (case hg => rfl); (case hr => first | (go_simp; done) | (go_simp; rfl)); intro gb101 hg w11 hbox hb; have n0_ := aM (below_step (bq HB) hb); have n1_ := aM (hbox); have n2_ := aM ((by rw [hg]; exact (below_size (bq HB)) : w.heap.size ≤ gb101)); have n3_ := n2_; clear HB; have HB := n0_; have BK101 := n1_; have GW101 := n2_; have GE101 := n3_; clear n0_ n1_ n2_ n3_; clear hb hbox hg) | ((with_reducible refine gate_callee (f := 32) rfl ?_); refine gL (some 13) Try.func32 #[.int .i64 a4, .int .i64 0, .int .i64 100000] ?_; (with_reducible refine (spec_l1In.calls a4 0 100000 true _ A6.out).mono ?_); rintro e w' ⟨rfl, ⟨nd, rfl⟩⟩; refine ⟨_, rfl, ?_⟩; (try (rw [drewN_self w11]; generalize hq_ : World.drewN w11 _ = w11; have n0_ : Aside0 (w11.heap[gb101]? = some (.cells #[.int .i64 0, .int .i64 0, .int .i64 0, .int .i64 0, .bool false, .int .i64 0, .int .i64 0, .int .i64 0, .int .i64 0, .int .i64 0, .int .i64 0, .int .i64 0, .int .i64 0, .int .i64 0] 30 (0, 0))) := ⟨by rw [← hq_]; exact (kq BK101)⟩; have n1_ : Aside0 (Below w.heap.size w w11) := ⟨by rw [← hq_]; exact (bq HB)⟩; clear BK101 HB hq_; have BK101 := n0_; have HB := n1_; clear n0_ n1_))) | (go_at_call 34; (with_reducible refine (spec_ShareOk.calls a2 a3 true _ A8.out).mono ?_); rintro e w12 ⟨rfl, hb⟩; have n0_ := aM (blk_below (kq BK101) hb); have n1_ := aM (below_step (bq HB) hb); clear BK101 HB; have BK101 := n0_; have HB := n1_; clear n0_ n1_; (try clear hb); (try clear hb2); (try clear hk); (try clear hi)) | ((with_reducible refine gate_callee (f := 51) rfl ?_); refine gL (some 32) Try.func51 #[.agg #[.int .i64 a0, .int .i64 1, .int .i64 a1, .int .i64 1, .bool false, .int .i64 a2, .int .i64 a3, .int .i64 a2, .int .i64 (wrap64 (a4 + a3)), .int .i64 0, .int .i64 0, .int .i64 0, .int .i64 0, .int .i64 0]] ?_; (with_reducible refine (spec_l3New.calls a0 1 a1 1 false a2 a3 a2 (wrap64 (a4 + a3)) 0 0 0 0 0 t104 t105 t106 t107 t108 t109 t110 t111 t112 t113 t114 t115 t116 t117 t118 _ A10.out).mono ?_); rintro e w13 ⟨rfl, hb⟩; refine ⟨_, rfl, ?_⟩; have n0_ := aM (blk_below (kq BK101) hb); have n1_ := aM (below_step (bq HB) hb); clear BK101 HB; have BK101 := n0_; have HB := n1_; clear n0_ n1_; (try clear hb); (try clear hb2); (try clear hk); (try clear hi); obtain ⟨_,_,_,_,_,_,_,_,_,_,_,_,_,_⟩ := cz14 BK101.out; have hfz14_0 := blk_frozen BK101.out))
      refine bodyPost_ret (results_ct rfl _ _ gb101 30 #[.int .i64 t104, .int .i64 t105, .int .i64 t106, .int .i64 t107, .bool t108, .int .i64 t109, .int .i64 t110, .int .i64 t111, .int .i64 t112, .int .i64 t113, .int .i64 t114, .int .i64 t115, .int .i64 t116, .int .i64 t117] (0, 0) _ rfl (by refine put14 (cs := tk14 0 0 0 0 false 0 0 0 0 0 0 0 0 0) ?_; (with_reducible repeat (first | apply bkD | apply bkd | apply bkA)); exact BK101.out) Try.underlying30 rfl (by kernel_rfl)) rfl ?_
      exact ⟨by first | rfl | (simp <;> rfl) | (simp [*] <;> rfl), bq HB⟩
    replace c9 := Bool.eq_false_iff.mpr c9
    subst c9
    have H1 : (some (0, 0, 0, 0, false, 0, 0, 0, 0, 0, 0, 0, 0, 0, false)) = some (r1, r2, r3, r4, r5, r6, r7, r8, r9, r10, r11, r12, r13, r14, r15) := by rw [if_neg (show ¬ (false = true) by decide)] at H; exact H
    clear H
    have H := H1
    clear H1
    simp only [Option.some.injEq, Prod.mk.injEq] at H
    obtain ⟨rfl, rfl, rfl, rfl, rfl, rfl, rfl, rfl, rfl, rfl, rfl, rfl, rfl, rfl, rfl⟩ := H
    go_enter Try.func47, Try.ntmps47
    go_wp2_with (first | ((with_reducible refine gate_dst (N := 10) rfl ?_); refine box_event ?hg (N := 10) ?hd (cs := tk14 0 0 0 0 false 0 0 0 0 0 0 0 0 0) (t := 30) ?hr ?_; (case hd => rfl); (case hg => rfl); (case hr => first | (go_simp; done) | (go_simp; rfl)); intro gb101 hg w15 hbox hb; have n0_ := aM (below_step (bq HB) hb); have n1_ := aM (hbox); have n2_ := aM ((by rw [hg]; exact (below_size (bq HB)) : w.heap.size ≤ gb101)); have n3_ := n2_; clear HB; have HB := n0_; have BK101 := n1_; have GW101 := n2_; have GE101 := n3_; clear n0_ n1_ n2_ n3_; clear hb hbox hg) | ((with_reducible refine gate_callee (f := 32) rfl ?_); refine gL (some 13) Try.func32 #[.int .i64 a4, .int .i64 0, .int .i64 100000] ?_; (with_reducible refine (spec_l1In.calls a4 0 100000 true _ A6.out).mono ?_); rintro e w' ⟨rfl, ⟨nd, rfl⟩⟩; refine ⟨_, rfl, ?_⟩; (try (rw [drewN_self w15]; generalize hq_ : World.drewN w15 _ = w15; have n0_ : Aside0 (w15.heap[gb101]? = some (.cells #[.int .i64 0, .int .i64 0, .int .i64 0, .int .i64 0, .bool false, .int .i64 0, .int .i64 0, .int .i64 0, .int .i64 0, .int .i64 0, .int .i64 0, .int .i64 0, .int .i64 0, .int .i64 0] 30 (0, 0))) := ⟨by rw [← hq_]; exact (kq BK101)⟩; have n1_ : Aside0 (Below w.heap.size w w15) := ⟨by rw [← hq_]; exact (bq HB)⟩; clear BK101 HB hq_; have BK101 := n0_; have HB := n1_; clear n0_ n1_))) | (go_at_call 34; (with_reducible refine (spec_ShareOk.calls a2 a3 false _ A8.out).mono ?_); rintro e w16 ⟨rfl, hb⟩; have n0_ := aM (blk_below (kq BK101) hb); have n1_ := aM (below_step (bq HB) hb); clear BK101 HB; have BK101 := n0_; have HB := n1_; clear n0_ n1_; (try clear hb); (try clear hb2); (try clear hk); (try clear hi); obtain ⟨_,_,_,_,_,_,_,_,_,_,_,_,_,_⟩ := cz14 BK101.out; have hfz17_0 := blk_frozen BK101.out))
    refine bodyPost_ret (results_ct rfl _ _ gb101 30 #[.int .i64 0, .int .i64 0, .int .i64 0, .int .i64 0, .bool false, .int .i64 0, .int .i64 0, .int .i64 0, .int .i64 0, .int .i64 0, .int .i64 0, .int .i64 0, .int .i64 0, .int .i64 0] (0, 0) _ rfl (by refine put14 (cs := tk14 0 0 0 0 false 0 0 0 0 0 0 0 0 0) ?_; (with_reducible repeat (first | apply bkD | apply bkd | apply bkA)); exact BK101.out) Try.underlying30 rfl (by kernel_rfl)) rfl ?_
    exact ⟨by first | rfl | (simp <;> rfl) | (simp [*] <;> rfl), bq HB⟩
  replace c7 := Bool.eq_false_iff.mpr c7
  subst c7
  have H1 : (some (0, 0, 0, 0, false, 0, 0, 0, 0, 0, 0, 0, 0, 0, false)) = some (r1, r2, r3, r4, r5, r6, r7, r8, r9, r10, r11, r12, r13, r14, r15) := by rw [if_neg (show ¬ (false = true) by decide)] at H; exact H
  clear H
  have H := H1
  clear H1
  simp only [Option.some.injEq, Prod.mk.injEq] at H
  obtain ⟨rfl, rfl, rfl, rfl, rfl, rfl, rfl, rfl, rfl, rfl, rfl, rfl, rfl, rfl, rfl⟩ := H
  go_enter Try.func47, Try.ntmps47
  go_wp2_with (first | ((with_reducible refine gate_dst (N := 10) rfl ?_); refine box_event ?hg (N := 10) ?hd (cs := tk14 0 0 0 0 false 0 0 0 0 0 0 0 0 0) (t := 30) ?hr ?_; (case hd => rfl); (case hg => rfl); (case hr => first | (go_simp; done) | (go_simp; rfl)); intro gb101 hg w18 hbox hb; have n0_ := aM (below_step (bq HB) hb); have n1_ := aM (hbox); have n2_ := aM ((by rw [hg]; exact (below_size (bq HB)) : w.heap.size ≤ gb101)); have n3_ := n2_; clear HB; have HB := n0_; have BK101 := n1_; have GW101 := n2_; have GE101 := n3_; clear n0_ n1_ n2_ n3_; clear hb hbox hg) | ((with_reducible refine gate_callee (f := 32) rfl ?_); refine gL (some 13) Try.func32 #[.int .i64 a4, .int .i64 0, .int .i64 100000] ?_; (with_reducible refine (spec_l1In.calls a4 0 100000 false _ A6.out).mono ?_); rintro e w' ⟨rfl, ⟨nd, rfl⟩⟩; refine ⟨_, rfl, ?_⟩; (try (rw [drewN_self w18]; generalize hq_ : World.drewN w18 _ = w18; have n0_ : Aside0 (w18.heap[gb101]? = some (.cells #[.int .i64 0, .int .i64 0, .int .i64 0, .int .i64 0, .bool false, .int .i64 0, .int .i64 0, .int .i64 0, .int .i64 0, .int .i64 0, .int .i64 0, .int .i64 0, .int .i64 0, .int .i64 0] 30 (0, 0))) := ⟨by rw [← hq_]; exact (kq BK101)⟩; have n1_ : Aside0 (Below w.heap.size w w18) := ⟨by rw [← hq_]; exact (bq HB)⟩; clear BK101 HB hq_; have BK101 := n0_; have HB := n1_; clear n0_ n1_)); obtain ⟨_,_,_,_,_,_,_,_,_,_,_,_,_,_⟩ := cz14 BK101.out; have hfz19_0 := blk_frozen BK101.out))
  refine bodyPost_ret (results_ct rfl _ _ gb101 30 #[.int .i64 0, .int .i64 0, .int .i64 0, .int .i64 0, .bool false, .int .i64 0, .int .i64 0, .int .i64 0, .int .i64 0, .int .i64 0, .int .i64 0, .int .i64 0, .int .i64 0, .int .i64 0] (0, 0) _ rfl (by refine put14 (cs := tk14 0 0 0 0 false 0 0 0 0 0 0 0 0 0) ?_; (with_reducible repeat (first | apply bkD | apply bkd | apply bkA)); exact BK101.out) Try.underlying30 rfl (by kernel_rfl)) rfl ?_
  exact ⟨by first | rfl | (simp <;> rfl) | (simp [*] <;> rfl), bq HB⟩

/-! ### spec_NewFixed: function 48 -/
def spec_NewFixed.f (a0 : Int) (a1 : Int) (a2 : Int) (a3 : Int) (a4 : Int) : Option (Int × Int × Int × Int × Bool × Int × Int × Int × Int × Int × Int × Int × Int × Int × Bool) := (spec_l3New.f a0 2 a1 1 false 0 0 a3 0 a2 a3 a4 0 0).bind fun bt102 => (some (bt102.1, bt102.2.1, bt102.2.2.1, bt102.2.2.2.1, bt102.2.2.2.2.1, bt102.2.2.2.2.2.1, bt102.2.2.2.2.2.2.1, bt102.2.2.2.2.2.2.2.1, bt102.2.2.2.2.2.2.2.2.1, bt102.2.2.2.2.2.2.2.2.2.1, bt102.2.2.2.2.2.2.2.2.2.2.1, bt102.2.2.2.2.2.2.2.2.2.2.2.1, bt102.2.2.2.2.2.2.2.2.2.2.2.2.1, bt102.2.2.2.2.2.2.2.2.2.2.2.2.2.1, bt102.2.2.2.2.2.2.2.2.2.2.2.2.2.2))
set_option maxHeartbeats 8000000 in
set_option maxRecDepth 100000 in
theorem spec_NewFixed.calls (a0 : Int) (a1 : Int) (a2 : Int) (a3 : Int) (a4 : Int) (r1 : Int) (r2 : Int) (r3 : Int) (r4 : Int) (r5 : Bool) (r6 : Int) (r7 : Int) (r8 : Int) (r9 : Int) (r10 : Int) (r11 : Int) (r12 : Int) (r13 : Int) (r14 : Int) (r15 : Bool) (w : World) (h : spec_NewFixed.f a0 a1 a2 a3 a4 = some (r1, r2, r3, r4, r5, r6, r7, r8, r9, r10, r11, r12, r13, r14, r15)) :
    Calls Try.prog 48 #[.int .i64 a0, .int .i64 a1, .int .i64 a2, .int .i64 a3, .int .i64 a4] w fun e w' => e = .returned (.tuple #[.agg #[.int .i64 r1, .int .i64 r2, .int .i64 r3, .int .i64 r4, .bool r5, .int .i64 r6, .int .i64 r7, .int .i64 r8, .int .i64 r9, .int .i64 r10, .int .i64 r11, .int .i64 r12, .int .i64 r13, .int .i64 r14], .bool r15]) ∧ Below w.heap.size w w' := by
  have hu30 := Try.underlying30
  have HB := aM (Below.refl w.heap.size w)
  have H : ((spec_l3New.f a0 2 a1 1 false 0 0 a3 0 a2 a3 a4 0 0).bind fun bt102 => (some (bt102.1, bt102.2.1, bt102.2.2.1, bt102.2.2.2.1, bt102.2.2.2.2.1, bt102.2.2.2.2.2.1, bt102.2.2.2.2.2.2.1, bt102.2.2.2.2.2.2.2.1, bt102.2.2.2.2.2.2.2.2.1, bt102.2.2.2.2.2.2.2.2.2.1, bt102.2.2.2.2.2.2.2.2.2.2.1, bt102.2.2.2.2.2.2.2.2.2.2.2.1, bt102.2.2.2.2.2.2.2.2.2.2.2.2.1, bt102.2.2.2.2.2.2.2.2.2.2.2.2.2.1, bt102.2.2.2.2.2.2.2.2.2.2.2.2.2.2))) = some (r1, r2, r3, r4, r5, r6, r7, r8, r9, r10, r11, r12, r13, r14, r15) := h
  clear h
  replace H := Option.bind_eq_some_iff.mp H
  obtain ⟨⟨t102, t103, t104, t105, t106, t107, t108, t109, t110, t111, t112, t113, t114, t115, t116⟩, A60, H⟩ := H
  replace H : (some (t102, t103, t104, t105, t106, t107, t108, t109, t110, t111, t112, t113, t114, t115, t116)) = some (r1, r2, r3, r4, r5, r6, r7, r8, r9, r10, r11, r12, r13, r14, r15) := H
  have A6 := Aside0.mk A60
  clear A60
  simp only [Option.some.injEq, Prod.mk.injEq] at H
  obtain ⟨rfl, rfl, rfl, rfl, rfl, rfl, rfl, rfl, rfl, rfl, rfl, rfl, rfl, rfl, rfl⟩ := H
  go_enter Try.func48, Try.ntmps48
  go_wp2_with (first | ((with_reducible refine gate_dst (N := 10) rfl ?_); refine box_event ?hg (N := 10) ?hd (cs := tk14 0 0 0 0 false 0 0 0 0 0 0 0 0 0) (t := 30) ?hr ?_; (case hd => rfl); (case hg => rfl); (case hr => first | (go_simp; done) | (go_simp; rfl)); intro gb101 hg w7 hbox hb; have n0_ := aM (below_step (bq HB) hb); have n1_ := aM (hbox); have n2_ := aM ((by rw [hg]; exact (below_size (bq HB)) : w.heap.size ≤ gb101)); have n3_ := n2_; clear HB; have HB := n0_; have BK101 := n1_; have GW101 := n2_; have GE101 := n3_; clear n0_ n1_ n2_ n3_; clear hb hbox hg) | ((with_reducible refine gate_callee (f := 51) rfl ?_); refine gL (some 19) Try.func51 #[.agg #[.int .i64 a0, .int .i64 2, .int .i64 a1, .int .i64 1, .bool false, .int .i64 0, .int .i64 0, .int .i64 a3, .int .i64 0, .int .i64 a2, .int .i64 a3, .int .i64 a4, .int .i64 0, .int .i64 0]] ?_; (with_reducible refine (spec_l3New.calls a0 2 a1 1 false 0 0 a3 0 a2 a3 a4 0 0 t102 t103 t104 t105 t106 t107 t108 t109 t110 t111 t112 t113 t114 t115 t116 _ A6.out).mono ?_); rintro e w8 ⟨rfl, hb⟩; refine ⟨_, rfl, ?_⟩; have n0_ := aM (blk_below (kq BK101) hb); have n1_ := aM (below_step (bq HB) hb); clear BK101 HB; have BK101 := n0_; have HB := n1_; clear n0_ n1_; (try clear hb); (try clear hb2); (try clear hk); (try clear hi); obtain ⟨_,_,_,_,_,_,_,_,_,_,_,_,_,_⟩ := cz14 BK101.out; have hfz9_0 := blk_frozen BK101.out))
  refine bodyPost_ret (results_ct rfl _ _ gb101 30 #[.int .i64 t102, .int .i64 t103, .int .i64 t104, .int .i64 t105, .bool t106, .int .i64 t107, .int .i64 t108, .int .i64 t109, .int .i64 t110, .int .i64 t111, .int .i64 t112, .int .i64 t113, .int .i64 t114, .int .i64 t115] (0, 0) _ rfl (by refine put14 (cs := tk14 0 0 0 0 false 0 0 0 0 0 0 0 0 0) ?_; (with_reducible repeat (first | apply bkD | apply bkd | apply bkA)); exact BK101.out) Try.underlying30 rfl (by kernel_rfl)) rfl ?_
  exact ⟨by first | rfl | (simp <;> rfl) | (simp [*] <;> rfl), bq HB⟩

/-! ### spec_NewFair: function 49 -/
def spec_NewFair.f (a0 : Int) (a1 : Int) (a2 : Int) (a3 : Int) : Option (Int × Int × Int × Int × Bool × Int × Int × Int × Int × Int × Int × Int × Int × Int × Bool) := (spec_l3New.f a0 3 a1 1 false 0 0 0 0 0 0 0 a2 a3).bind fun bt102 => (some (bt102.1, bt102.2.1, bt102.2.2.1, bt102.2.2.2.1, bt102.2.2.2.2.1, bt102.2.2.2.2.2.1, bt102.2.2.2.2.2.2.1, bt102.2.2.2.2.2.2.2.1, bt102.2.2.2.2.2.2.2.2.1, bt102.2.2.2.2.2.2.2.2.2.1, bt102.2.2.2.2.2.2.2.2.2.2.1, bt102.2.2.2.2.2.2.2.2.2.2.2.1, bt102.2.2.2.2.2.2.2.2.2.2.2.2.1, bt102.2.2.2.2.2.2.2.2.2.2.2.2.2.1, bt102.2.2.2.2.2.2.2.2.2.2.2.2.2.2))
set_option maxHeartbeats 8000000 in
set_option maxRecDepth 100000 in
theorem spec_NewFair.calls (a0 : Int) (a1 : Int) (a2 : Int) (a3 : Int) (r1 : Int) (r2 : Int) (r3 : Int) (r4 : Int) (r5 : Bool) (r6 : Int) (r7 : Int) (r8 : Int) (r9 : Int) (r10 : Int) (r11 : Int) (r12 : Int) (r13 : Int) (r14 : Int) (r15 : Bool) (w : World) (h : spec_NewFair.f a0 a1 a2 a3 = some (r1, r2, r3, r4, r5, r6, r7, r8, r9, r10, r11, r12, r13, r14, r15)) :
    Calls Try.prog 49 #[.int .i64 a0, .int .i64 a1, .int .i64 a2, .int .i64 a3] w fun e w' => e = .returned (.tuple #[.agg #[.int .i64 r1, .int .i64 r2, .int .i64 r3, .int .i64 r4, .bool r5, .int .i64 r6, .int .i64 r7, .int .i64 r8, .int .i64 r9, .int .i64 r10, .int .i64 r11, .int .i64 r12, .int .i64 r13, .int .i64 r14], .bool r15]) ∧ Below w.heap.size w w' := by
  have hu30 := Try.underlying30
  have HB := aM (Below.refl w.heap.size w)
  have H : ((spec_l3New.f a0 3 a1 1 false 0 0 0 0 0 0 0 a2 a3).bind fun bt102 => (some (bt102.1, bt102.2.1, bt102.2.2.1, bt102.2.2.2.1, bt102.2.2.2.2.1, bt102.2.2.2.2.2.1, bt102.2.2.2.2.2.2.1, bt102.2.2.2.2.2.2.2.1, bt102.2.2.2.2.2.2.2.2.1, bt102.2.2.2.2.2.2.2.2.2.1, bt102.2.2.2.2.2.2.2.2.2.2.1, bt102.2.2.2.2.2.2.2.2.2.2.2.1, bt102.2.2.2.2.2.2.2.2.2.2.2.2.1, bt102.2.2.2.2.2.2.2.2.2.2.2.2.2.1, bt102.2.2.2.2.2.2.2.2.2.2.2.2.2.2))) = some (r1, r2, r3, r4, r5, r6, r7, r8, r9, r10, r11, r12, r13, r14, r15) := h
  clear h
  replace H := Option.bind_eq_some_iff.mp H
  obtain ⟨⟨t102, t103, t104, t105, t106, t107, t108, t109, t110, t111, t112, t113, t114, t115, t116⟩, A50, H⟩ := H
  replace H : (some (t102, t103, t104, t105, t106, t107, t108, t109, t110, t111, t112, t113, t114, t115, t116)) = some (r1, r2, r3, r4, r5, r6, r7, r8, r9, r10, r11, r12, r13, r14, r15) := H
  have A5 := Aside0.mk A50
  clear A50
  simp only [Option.some.injEq, Prod.mk.injEq] at H
  obtain ⟨rfl, rfl, rfl, rfl, rfl, rfl, rfl, rfl, rfl, rfl, rfl, rfl, rfl, rfl, rfl⟩ := H
  go_enter Try.func49, Try.ntmps49
  go_wp2_with (first | ((with_reducible refine gate_dst (N := 8) rfl ?_); refine box_event ?hg (N := 8) ?hd (cs := tk14 0 0 0 0 false 0 0 0 0 0 0 0 0 0) (t := 30) ?hr ?_; (case hd => rfl); (case hg => rfl); (case hr => first | (go_simp; done) | (go_simp; rfl)); intro gb101 hg w6 hbox hb; have n0_ := aM (below_step (bq HB) hb); have n1_ := aM (hbox); have n2_ := aM ((by rw [hg]; exact (below_size (bq HB)) : w.heap.size ≤ gb101)); have n3_ := n2_; clear HB; have HB := n0_; have BK101 := n1_; have GW101 := n2_; have GE101 := n3_; clear n0_ n1_ n2_ n3_; clear hb hbox hg) | ((with_reducible refine gate_callee (f := 51) rfl ?_); refine gL (some 15) Try.func51 #[.agg #[.int .i64 a0, .int .i64 3, .int .i64 a1, .int .i64 1, .bool false, .int .i64 0, .int .i64 0, .int .i64 0, .int .i64 0, .int .i64 0, .int .i64 0, .int .i64 0, .int .i64 a2, .int .i64 a3]] ?_; (with_reducible refine (spec_l3New.calls a0 3 a1 1 false 0 0 0 0 0 0 0 a2 a3 t102 t103 t104 t105 t106 t107 t108 t109 t110 t111 t112 t113 t114 t115 t116 _ A5.out).mono ?_); rintro e w7 ⟨rfl, hb⟩; refine ⟨_, rfl, ?_⟩; have n0_ := aM (blk_below (kq BK101) hb); have n1_ := aM (below_step (bq HB) hb); clear BK101 HB; have BK101 := n0_; have HB := n1_; clear n0_ n1_; (try clear hb); (try clear hb2); (try clear hk); (try clear hi); obtain ⟨_,_,_,_,_,_,_,_,_,_,_,_,_,_⟩ := cz14 BK101.out; have hfz8_0 := blk_frozen BK101.out))
  refine bodyPost_ret (results_ct rfl _ _ gb101 30 #[.int .i64 t102, .int .i64 t103, .int .i64 t104, .int .i64 t105, .bool t106, .int .i64 t107, .int .i64 t108, .int .i64 t109, .int .i64 t110, .int .i64 t111, .int .i64 t112, .int .i64 t113, .int .i64 t114, .int .i64 t115] (0, 0) _ rfl (by refine put14 (cs := tk14 0 0 0 0 false 0 0 0 0 0 0 0 0 0) ?_; (with_reducible repeat (first | apply bkD | apply bkd | apply bkA)); exact BK101.out) Try.underlying30 rfl (by kernel_rfl)) rfl ?_
  exact ⟨by first | rfl | (simp <;> rfl) | (simp [*] <;> rfl), bq HB⟩

end Go.Proofs.Ytbihinhckmfplaa.Print
