/- Go functions as plain Lean functions, and that the Go code answers just as these, wherever they answer. Conditions: those of each theorem. Written by a program of this session (wip/patch.py). -/
import Derived.Test.YtplecpkghbjbjaaPrint0
import Derived.Test.YtplecpkghbjbjaaPrintLawsBig
import Derived.Test.YtplecpkghbjbjaaPrintSpecL7Draw
namespace Go.Proofs.Ytplecpkghbjbjaa.Print
open Go.RowKit Go.Proofs.Ytplecpkghbjbjaa.Base Go.Proofs.YtplecpkghbjbjaaW.PrintWords Go.Proofs.YtplecpkghbjbjaaW.PrintLast Go.Proofs.YtplecpkghbjbjaaW.PrintMore
attribute [local go_sem] max2_int min2_int max_two min_two max_three min_three max_four min_four   -- for this text's walks alone
set_option linter.unusedVariables false
set_option linter.unusedSimpArgs false

/-! ### spec_DrawLockFree: function 39 -/
def spec_DrawLockFree.j0 : Nat → List (S30) → Int → Int → Int → List Int → Int → Int → Option ((List (S30)) × Int × Int × Int)
  | 0, _, _, _, _, _, _, _ => none
  | k + 1, x7, x8, x9, x10, x105000, x105001, x105002 => (spec_l1Below.f x105000 x105001 x105002 9).bind fun bt121 => (if bt121.1 = 0 then ((spec_l1Below.f x105000 bt121.2.1 bt121.2.2 8).bind fun bt124 => (some (x7, x8, bt124.1, x10))) else (if bt121.1 = 1 then ((spec_l1Below.f x105000 bt121.2.1 bt121.2.2 8).bind fun bt127 => (some (x7, x8, x9, bt127.1))) else (if bt121.1 = 2 then ((spec_l1Below.f x105000 bt121.2.1 bt121.2.2 7).bind fun bt130 => (some (x7, wrap64 (bt130.1 - 1), x9, x10))) else (some (x7, x8, x9, x10)))))
def spec_DrawLockFree.f (k : Nat) (l0 : List Int) : Option ((List (S30)) × Int × Int × Int) := (spec_l1New.f k l0).bind fun bt101 => ((spec_l7Draw.f k bt101.1 bt101.2.1 bt101.2.2).bind fun bt105 => ((spec_l1Below.f bt101.1 bt105.2.1 bt105.2.2 (bt105.1.length : Int)).bind fun bt110 => (if 0 ≤ bt110.1 then (if bt110.1 < (bt105.1.length : Int) then (if (((rd_T30 bt105.1 bt110.1).f1).length : Int) > 0 then ((spec_l1Below.f bt101.1 bt110.2.1 bt110.2.2 (((rd_T30 bt105.1 bt110.1).f1).length : Int)).bind fun bt117 => (if 0 ≤ bt117.1 then (if bt117.1 < (((rd_T30 bt105.1 bt110.1).f1).length : Int) then (spec_DrawLockFree.j0 k bt105.1 bt110.1 ((rd_T30 bt105.1 bt110.1).f0) (rd ((rd_T30 bt105.1 bt110.1).f1) bt117.1) bt101.1 bt117.2.1 bt117.2.2) else (none)) else (none))) else (spec_DrawLockFree.j0 k bt105.1 bt110.1 ((rd_T30 bt105.1 bt110.1).f0) 0 bt101.1 bt110.2.1 bt110.2.2)) else (none)) else (none))))
theorem spec_DrawLockFree.mono_l : ∀ k, (∀ y0 y1 y2 y3 y4 y5 y6, LeO (spec_DrawLockFree.j0 k y0 y1 y2 y3 y4 y5 y6) (spec_DrawLockFree.j0 (k + 1) y0 y1 y2 y3 y4 y5 y6))
  | 0 => fun _ _ _ _ _ _ _ r h => by simp [spec_DrawLockFree.j0] at h
  | k + 1 => by
    have ih0 := spec_DrawLockFree.mono_l k
    intro y0 y1 y2 y3 y4 y5 y6
    unfold spec_DrawLockFree.j0
    repeat' first
    | (with_reducible exact ih0 _ _ _ _ _ _ _)
    | (with_reducible exact spec_l1New.mono _ _)
    | (with_reducible exact spec_l7Draw.mono _ _ _ _)
    | (with_reducible exact LeO.refl _)
    | (with_reducible exact LeO.none _)
    | (with_reducible refine LeO.ite ?_ ?_)
    | (with_reducible refine LeO.bind ?_ (fun _ => ?_))
    | exact ih0 _ _ _ _ _ _ _
    | exact spec_l1New.mono _ _
    | exact spec_l7Draw.mono _ _ _ _
    | exact LeO.none _
    | refine LeO.ite ?_ ?_
    | refine LeO.bind ?_ (fun _ => ?_)
theorem spec_DrawLockFree.mono : ∀ a0 k, LeO (spec_DrawLockFree.f k a0) (spec_DrawLockFree.f (k + 1) a0) := by
  intro a0 k
  have ih0 := spec_DrawLockFree.mono_l k
  unfold spec_DrawLockFree.f
  repeat' first
      | (with_reducible exact ih0 _ _ _ _ _ _ _)
      | (with_reducible exact spec_l1New.mono _ _)
      | (with_reducible exact spec_l7Draw.mono _ _ _ _)
      | (with_reducible exact LeO.refl _)
      | (with_reducible exact LeO.none _)
      | (with_reducible refine LeO.ite ?_ ?_)
      | (with_reducible refine LeO.bind ?_ (fun _ => ?_))
      | exact ih0 _ _ _ _ _ _ _
      | exact spec_l1New.mono _ _
      | exact spec_l7Draw.mono _ _ _ _
      | exact LeO.none _
      | refine LeO.ite ?_ ?_
      | refine LeO.bind ?_ (fun _ => ?_)
def spec_DrawLockFree.T7 : Bool × List (List Nat × List Nat) := (true, [([], []), ([], []), ([0, 1], [0, 1]), ([2], [2]), ([3], [3]), ([], []), ([], []), ([], []), ([6, 7], [6, 7]), ([8], [8]), ([9], [9]), ([10], [10]), ([5, 11], [5, 11]), ([4, 12], [4, 12]), ([13], [13]), ([14, 12, 0, 1, 2, 3, 4, 5, 6, 7, 8, 9, 10, 11, 12, 13, 14], [14])])
def spec_DrawLockFree.B7 : List Nat := [0, 0, 3, 7, 15, 0, 0, 0, 192, 448, 960, 1984, 4064, 8191, 16383, 32767]
theorem spec_DrawLockFree.tab7 : rtab .any (opsOf Try.f39 7) = spec_DrawLockFree.T7 := by kernel_rfl
theorem spec_DrawLockFree.bits7 : waitsOk spec_DrawLockFree.T7.2 spec_DrawLockFree.B7 = true := by kernel_rfl
set_option maxHeartbeats 8000000 in
set_option maxRecDepth 100000 in
theorem spec_DrawLockFree.calls (k : Nat) (A0 : Option Addr) (c0 : Nat) (l0 : List Int) (r1 : List (S30)) (r2 : Int) (r3 : Int) (r4 : Int) (w : World) (hr0 : Kd.C (Kd.int .u8) w A0 l0.length l0) (hc0 : l0.length ≤ c0) (h : spec_DrawLockFree.f k l0 = some (r1, r2, r3, r4)) :
    Calls Try.prog 39 #[.slice A0 l0.length c0] w fun e w' => ∃ v0_ : Value, e = .returned (.tuple #[v0_, .int .i64 r2, .int .i64 r3, .int .i64 r4]) ∧ Kd.S k30 30 w' w.heap.size (fun _ => True) v0_ r1 ∧ Below w.heap.size w w' := by
  have HR0 := Aside0.mk hr0
  have HC0 := Aside0.mk hc0
  clear hr0 hc0
  have HB := aM (Below.refl w.heap.size w)
  have H : ((spec_l1New.f k l0).bind fun bt101 => ((spec_l7Draw.f k bt101.1 bt101.2.1 bt101.2.2).bind fun bt105 => ((spec_l1Below.f bt101.1 bt105.2.1 bt105.2.2 (bt105.1.length : Int)).bind fun bt110 => (if 0 ≤ bt110.1 then (if bt110.1 < (bt105.1.length : Int) then (if (((rd_T30 bt105.1 bt110.1).f1).length : Int) > 0 then ((spec_l1Below.f bt101.1 bt110.2.1 bt110.2.2 (((rd_T30 bt105.1 bt110.1).f1).length : Int)).bind fun bt117 => (if 0 ≤ bt117.1 then (if bt117.1 < (((rd_T30 bt105.1 bt110.1).f1).length : Int) then (spec_DrawLockFree.j0 k bt105.1 bt110.1 ((rd_T30 bt105.1 bt110.1).f0) (rd ((rd_T30 bt105.1 bt110.1).f1) bt117.1) bt101.1 bt117.2.1 bt117.2.2) else (none)) else (none))) else (spec_DrawLockFree.j0 k bt105.1 bt110.1 ((rd_T30 bt105.1 bt110.1).f0) 0 bt101.1 bt110.2.1 bt110.2.2)) else (none)) else (none))))) = some (r1, r2, r3, r4) := h
  clear h
  replace H := Option.bind_eq_some_iff.mp H
  obtain ⟨⟨t101, t102, t103⟩, A20, H⟩ := H
  replace H : ((spec_l7Draw.f k t101 t102 t103).bind fun bt105 => ((spec_l1Below.f t101 bt105.2.1 bt105.2.2 (bt105.1.length : Int)).bind fun bt110 => (if 0 ≤ bt110.1 then (if bt110.1 < (bt105.1.length : Int) then (if (((rd_T30 bt105.1 bt110.1).f1).length : Int) > 0 then ((spec_l1Below.f t101 bt110.2.1 bt110.2.2 (((rd_T30 bt105.1 bt110.1).f1).length : Int)).bind fun bt117 => (if 0 ≤ bt117.1 then (if bt117.1 < (((rd_T30 bt105.1 bt110.1).f1).length : Int) then (spec_DrawLockFree.j0 k bt105.1 bt110.1 ((rd_T30 bt105.1 bt110.1).f0) (rd ((rd_T30 bt105.1 bt110.1).f1) bt117.1) t101 bt117.2.1 bt117.2.2) else (none)) else (none))) else (spec_DrawLockFree.j0 k bt105.1 bt110.1 ((rd_T30 bt105.1 bt110.1).f0) 0 t101 bt110.2.1 bt110.2.2)) else (none)) else (none)))) = some (r1, r2, r3, r4) := H
  have A2 := Aside0.mk A20
  clear A20
  replace H := Option.bind_eq_some_iff.mp H
  obtain ⟨⟨t105, t108, t109⟩, A30, H⟩ := H
  replace H : ((spec_l1Below.f t101 t108 t109 (t105.length : Int)).bind fun bt110 => (if 0 ≤ bt110.1 then (if bt110.1 < (t105.length : Int) then (if (((rd_T30 t105 bt110.1).f1).length : Int) > 0 then ((spec_l1Below.f t101 bt110.2.1 bt110.2.2 (((rd_T30 t105 bt110.1).f1).length : Int)).bind fun bt117 => (if 0 ≤ bt117.1 then (if bt117.1 < (((rd_T30 t105 bt110.1).f1).length : Int) then (spec_DrawLockFree.j0 k t105 bt110.1 ((rd_T30 t105 bt110.1).f0) (rd ((rd_T30 t105 bt110.1).f1) bt117.1) t101 bt117.2.1 bt117.2.2) else (none)) else (none))) else (spec_DrawLockFree.j0 k t105 bt110.1 ((rd_T30 t105 bt110.1).f0) 0 t101 bt110.2.1 bt110.2.2)) else (none)) else (none))) = some (r1, r2, r3, r4) := H
  have A3 := Aside0.mk A30
  clear A30
  replace H := Option.bind_eq_some_iff.mp H
  obtain ⟨⟨t110, t111, t112⟩, A40, H⟩ := H
  replace H : (if 0 ≤ t110 then (if t110 < (t105.length : Int) then (if (((rd_T30 t105 t110).f1).length : Int) > 0 then ((spec_l1Below.f t101 t111 t112 (((rd_T30 t105 t110).f1).length : Int)).bind fun bt117 => (if 0 ≤ bt117.1 then (if bt117.1 < (((rd_T30 t105 t110).f1).length : Int) then (spec_DrawLockFree.j0 k t105 t110 ((rd_T30 t105 t110).f0) (rd ((rd_T30 t105 t110).f1) bt117.1) t101 bt117.2.1 bt117.2.2) else (none)) else (none))) else (spec_DrawLockFree.j0 k t105 t110 ((rd_T30 t105 t110).f0) 0 t101 t111 t112)) else (none)) else (none)) = some (r1, r2, r3, r4) := H
  have A4 := Aside0.mk A40
  clear A40
  by_cases c5 : 0 ≤ t110
  · rw [if_pos c5] at H
    have c5b0 : decide (0 ≤ t110) = true := decide_eq_true c5
    clear c5
    by_cases c6 : t110 < (t105.length : Int)
    · rw [if_pos c6] at H
      have c6b0 : decide (t110 < (t105.length : Int)) = true := decide_eq_true c6
      clear c6
      have HC7 := Aside0.mk H
      clear H
      go_enter Try.func39, Try.ntmps39
      go_upto_if 30 with (first | ((with_reducible refine gate_callee (f := 48) rfl ?_); refine goesL_ (some 12) rfl rfl Try.func48 (by kernel_rfl) rfl #[.slice A0 l0.length c0] rfl (by (try simp only [List.map_toArray, List.map_cons, List.map_nil]); first | done | rfl | (simp only [List.length_drop, List.length_take]; rfl)) ?_; (with_reducible refine (spec_l1New.calls k _ _ l0 t101 t102 t103 w _ ?side1 ?side2 ?side3 A2.out).mono ?_); (case side1 => repeat (first | (with_reducible first | exact HB.out | apply beA | apply beD | apply bed) | exact HB.out)); (case side2 => exact HR0.out); (case side3 => exact HC0.out); rintro e w8 ⟨g104, rfl, hi, hb, hb2⟩; refine ⟨_, rfl, ?_⟩; have n0_ := aM (hb); have n1_ := aM (hi); clear HB; have HB := n0_; have HI104 := n1_; clear n0_ n1_; (try clear hb); (try clear hb2); (try clear hk); (try clear hi)) | ((with_reducible refine gate_callee (f := 49) rfl ?_); refine goesL_ (some 14) rfl rfl Try.func49 (by kernel_rfl) rfl #[.pointer (some ⟨g104, 0, none⟩)] rfl (by (try simp only [List.map_toArray, List.map_cons, List.map_nil]); first | done | rfl | (simp only [List.length_drop, List.length_take]; rfl)) ?_; (with_reducible refine (spec_l7Draw.calls k g104 t101 t102 t103 t105 t108 t109 w _ ?side1 ?side2 A3.out).mono ?_); (case side1 => repeat (first | (with_reducible first | exact HI104.out | apply IsS82.alloc | apply IsS82.drewN | apply IsS82.drew | apply IsS82.set_1 | apply IsS82.set_2) | exact HI104.out)); (case side2 => repeat (first | (with_reducible first | exact HB.out | apply beA | apply beD | apply bed | refine beS ?_ (IsS82.ge HI104.out)) | exact HB.out)); rintro e w9 ⟨v106, rfl, ho0, hi, hb, hk⟩; refine ⟨_, rfl, ?_⟩; have n0_ := aM (Kd.S_lower ho0 (below_size (by repeat (first | (with_reducible first | exact HB.out | apply beA | apply beD | apply bed | refine beS ?_ (IsS82.ge HI104.out)) | exact HB.out)))); have n1_ := aM (hb); have n2_ := aM (hi); clear HB; clear HI104; have HO107 := n0_; have HB := n1_; have HI104 := n2_; clear n0_ n1_ n2_; (try clear hb); (try clear hb2); (try clear hk); (try clear hi); (try clear ho0); obtain ⟨Ao10, co10, eo10⟩ := Kd.S_slice HO107.out; subst eo10) | ((with_reducible refine gate_callee (f := 50) rfl ?_); refine goesL_ (some 18) rfl rfl Try.func50 (by kernel_rfl) rfl #[.pointer (some ⟨g104, 0, none⟩), .int .i64 (t105.length : Int)] rfl (by (try simp only [List.map_toArray, List.map_cons, List.map_nil]); first | done | rfl | (simp only [List.length_drop, List.length_take]; rfl)) ?_; (with_reducible refine (spec_l1Below.calls g104 t101 t108 t109 (t105.length : Int) t110 t111 t112 w _ ?side1 ?side2 A4.out).mono ?_); (case side1 => repeat (first | (with_reducible first | exact HI104.out | apply IsS82.alloc | apply IsS82.drewN | apply IsS82.drew | apply IsS82.set_1 | apply IsS82.set_2) | exact HI104.out)); (case side2 => repeat (first | (with_reducible first | exact HB.out | apply beA | apply beD | apply bed | refine beS ?_ (IsS82.ge HI104.out)) | exact HB.out)); rintro e w11 ⟨rfl, hi, hb, hk⟩; refine ⟨_, rfl, ?_⟩; have n0_ := aM (Kd.S_mono (Kd.S_keep (IsS82.apartS (show IsS82 w _ g104 t101 t108 t109 from by repeat (first | (with_reducible first | exact HI104.out | apply IsS82.alloc | apply IsS82.drewN | apply IsS82.drew | apply IsS82.set_1 | apply IsS82.set_2) | exact HI104.out)) (by (with_reducible repeat (first | apply Kd.S_alloc | apply Kd.S_drewN | apply Kd.S_drew)); exact HO107.out) (by decide)) hk (fun _ h => h.2)) (fun _ h => h.1)); have n1_ := aM (hb); have n2_ := aM (hi); clear HO107; clear HB; clear HI104; have HO107 := n0_; have HB := n1_; have HI104 := n2_; clear n0_ n1_ n2_; (try clear hb); (try clear hb2); (try clear hk); (try clear hi); have p113 : 0 ≤ (t110 : Int) := of_decide_eq_true (by first | (with_reducible assumption) | assumption); have q113 : t110 < (t105.length : Int) := of_decide_eq_true (by first | (with_reducible assumption) | assumption); obtain ⟨ad113, A113_1, c113_1, e113, hx113_0, hx113_1, hl113_1, hi113_1⟩ := at_T30 (Kd.S_reads' HO107.out).2.2 t110 p113 q113; cases e113; obtain ⟨ce113, hce113, hMe113, hcc113⟩ := Kd.S_get HO107.out z30 t110 p113 (by first | exact q113 | exact of_decide_eq_true (by first | (with_reducible assumption) | assumption) | (have e_ := (Kd.S_reads' HO107.out).1; omega)); obtain ⟨ve113_1, rfl, ge113_1⟩ := k30_openM hMe113; have hv113_1 := hcc113 1 _ rfl; rw [add_field _ _ 1 (by omega)] at hv113_1; replace hv113_1 := Option.some.inj (hv113_1.symm.trans hx113_1); rw [hv113_1] at ge113_1; have HL113_1 := aM (show Kd.R (Kd.int .i64) 3 _ _ _ _ ((rd_T30 t105 t110).f1) from ge113_1); clear hv113_1 ge113_1; clear hcc113 hce113; have HR113_1 := Aside0.mk hi113_1; have HC113_1 := Aside0.mk hl113_1; clear hi113_1 hl113_1; replace p113 := eq_true p113; replace q113 := eq_true q113; have p114 : 0 ≤ (t110 : Int) := of_decide_eq_true (by first | (with_reducible assumption) | assumption); have q114 : t110 < (t105.length : Int) := of_decide_eq_true (by first | (with_reducible assumption) | assumption); obtain ⟨ad114, A114_1, c114_1, e114, hx114_0, hx114_1, hl114_1, hi114_1⟩ := at_T30 (Kd.S_reads' HO107.out).2.2 t110 p114 q114; obtain rfl : ad113 = ad114 := (by injection e114); obtain ⟨ce114, hce114, hMe114, hcc114⟩ := Kd.S_get HO107.out z30 t110 p114 (by first | exact q114 | exact of_decide_eq_true (by first | (with_reducible assumption) | assumption) | (have e_ := (Kd.S_reads' HO107.out).1; omega)); obtain ⟨ve114_1, rfl, ge114_1⟩ := k30_openM hMe114; have hv114_1 := hcc114 1 _ rfl; rw [add_field _ _ 1 (by omega)] at hv114_1; replace hv114_1 := Option.some.inj (hv114_1.symm.trans hx114_1); rw [hv114_1] at ge114_1; have HL114_1 := aM (show Kd.R (Kd.int .i64) 3 _ _ _ _ ((rd_T30 t105 t110).f1) from ge114_1); clear hv114_1 ge114_1; clear hcc114 hce114; have HR114_1 := Aside0.mk hi114_1; have HC114_1 := Aside0.mk hl114_1; clear hi114_1 hl114_1; replace p114 := eq_true p114; replace q114 := eq_true q114; have ea_ := Option.some.inj (hx113_1.symm.trans hx114_1); injection ea_ with ea_ en_ ec_; subst ea_; subst ec_; clear en_))
      (try simp only [Act.put, tA, tB, tC])
      go_cut [10] (fun v10 wc => ∃ (kq : Nat) (x10_6 : Int) (x105001_6 : Int) (x105002_6 : Int), v10 = .int .i64 x10_6 ∧ Aside0 (spec_DrawLockFree.j0 kq t105 t110 ((rd_T30 t105 t110).f0) x10_6 t101 x105001_6 x105002_6 = some (r1, r2, r3, r4)) ∧ Aside0 (kq ≤ k) ∧ Aside0 (Kd.S k30 30 wc w.heap.size (fun _ => True) (.slice (some ad113) t105.length co10) t105) ∧ Aside0 (IsS82 w wc g104 t101 x105001_6 x105002_6) ∧ Aside0 (Below w.heap.size w wc))
      case first =>
        have H := HC7.out
        clear HC7
        by_cases c12 : (((rd_T30 t105 t110).f1).length : Int) > 0
        · rw [if_pos c12] at H
          have c12b0 : decide (0 < (((rd_T30 t105 t110).f1).length : Int)) = true := decide_eq_true c12
          have c12b1 : decide (0 < ((rd_T30 t105 t110).f1).length) = true := decide_eq_true (by omega)
          clear c12
          (first | rw [c12b0] | (simp only [i64_w, i32_w]; rw [c12b0]) | rw [c12b1] | skip)
          replace H := Option.bind_eq_some_iff.mp H
          obtain ⟨⟨t117, t118, t119⟩, A130, H⟩ := H
          replace H : (if 0 ≤ t117 then (if t117 < (((rd_T30 t105 t110).f1).length : Int) then (spec_DrawLockFree.j0 k t105 t110 ((rd_T30 t105 t110).f0) (rd ((rd_T30 t105 t110).f1) t117) t101 t118 t119) else (none)) else (none)) = some (r1, r2, r3, r4) := H
          have A13 := Aside0.mk A130
          clear A130
          by_cases c14 : 0 ≤ t117
          · rw [if_pos c14] at H
            have c14b0 : decide (0 ≤ t117) = true := decide_eq_true c14
            clear c14
            by_cases c15 : t117 < (((rd_T30 t105 t110).f1).length : Int)
            · rw [if_pos c15] at H
              have c15b0 : decide (t117 < (((rd_T30 t105 t110).f1).length : Int)) = true := decide_eq_true c15
              clear c15
              have H' := Aside0.mk H
              clear H
              try go_wp2
              have n0_ := aM (Kd.S_drew HO107.out)
              have n1_ := aM (Kd.R_drew HL113_1.out)
              have n2_ := aM (Kd.R_drew HL114_1.out)
              have n3_ := aM (Kd.C_drew HR113_1.out)
              have n4_ := aM (Kd.C_drew HR114_1.out)
              have n5_ := aM (IsS82.drew HI104.out)
              have n6_ := aM (below_drew1 HB.out)
              clear HO107
              clear HL113_1
              clear HL114_1
              clear HR113_1
              clear HR114_1
              clear HI104
              clear HB
              have HO107 := n0_
              have HL113_1 := n1_
              have HL114_1 := n2_
              have HR113_1 := n3_
              have HR114_1 := n4_
              have HI104 := n5_
              have HB := n6_
              clear n0_ n1_ n2_ n3_ n4_ n5_ n6_
              have p115 : 0 ≤ (t110 : Int) := of_decide_eq_true (by first | (with_reducible assumption) | assumption)
              have q115 : t110 < (t105.length : Int) := of_decide_eq_true (by first | (with_reducible assumption) | assumption)
              obtain ⟨ad115, A115_1, c115_1, e115, hx115_0, hx115_1, hl115_1, hi115_1⟩ := at_T30 (Kd.S_reads' HO107.out).2.2 t110 p115 q115
              obtain rfl : ad113 = ad115 := (by injection e115)
              obtain ⟨ce115, hce115, hMe115, hcc115⟩ := Kd.S_get HO107.out z30 t110 p115 (by first | exact q115 | exact of_decide_eq_true (by first | (with_reducible assumption) | assumption) | (have e_ := (Kd.S_reads' HO107.out).1; omega))
              obtain ⟨ve115_1, rfl, ge115_1⟩ := k30_openM hMe115
              have hv115_1 := hcc115 1 _ rfl
              rw [add_field _ _ 1 (by omega)] at hv115_1
              replace hv115_1 := Option.some.inj (hv115_1.symm.trans hx115_1)
              rw [hv115_1] at ge115_1
              have HL115_1 := aM (show Kd.R (Kd.int .i64) 3 _ _ _ _ ((rd_T30 t105 t110).f1) from ge115_1)
              clear hv115_1 ge115_1
              clear hcc115 hce115
              have HR115_1 := Aside0.mk hi115_1
              have HC115_1 := Aside0.mk hl115_1
              clear hi115_1 hl115_1
              replace p115 := eq_true p115
              replace q115 := eq_true q115
              have p116 : 0 ≤ (t110 : Int) := of_decide_eq_true (by first | (with_reducible assumption) | assumption)
              have q116 : t110 < (t105.length : Int) := of_decide_eq_true (by first | (with_reducible assumption) | assumption)
              obtain ⟨ad116, A116_1, c116_1, e116, hx116_0, hx116_1, hl116_1, hi116_1⟩ := at_T30 (Kd.S_reads' HO107.out).2.2 t110 p116 q116
              obtain rfl : ad113 = ad116 := (by injection e116)
              obtain ⟨ce116, hce116, hMe116, hcc116⟩ := Kd.S_get HO107.out z30 t110 p116 (by first | exact q116 | exact of_decide_eq_true (by first | (with_reducible assumption) | assumption) | (have e_ := (Kd.S_reads' HO107.out).1; omega))
              obtain ⟨ve116_1, rfl, ge116_1⟩ := k30_openM hMe116
              have hv116_1 := hcc116 1 _ rfl
              rw [add_field _ _ 1 (by omega)] at hv116_1
              replace hv116_1 := Option.some.inj (hv116_1.symm.trans hx116_1)
              rw [hv116_1] at ge116_1
              have HL116_1 := aM (show Kd.R (Kd.int .i64) 3 _ _ _ _ ((rd_T30 t105 t110).f1) from ge116_1)
              clear hv116_1 ge116_1
              clear hcc116 hce116
              have HR116_1 := Aside0.mk hi116_1
              have HC116_1 := Aside0.mk hl116_1
              clear hi116_1 hl116_1
              replace p116 := eq_true p116
              replace q116 := eq_true q116
              have ea_ := Option.some.inj (hx115_1.symm.trans hx116_1)
              injection ea_ with ea_ en_ ec_
              subst ea_
              subst ec_
              clear en_
              have p120 : 0 ≤ (t117 : Int) := of_decide_eq_true (by first | (with_reducible assumption) | assumption)
              have q120 : t117 < (((rd_T30 t105 t110).f1).length : Int) := of_decide_eq_true (by first | (with_reducible assumption) | assumption)
              obtain ⟨ad120, e120, hx120_0⟩ := Kd.at_int (Kd.R_reads' HL115_1.out).2.2 t117 p120 q120
              refine start_ (n := 16) (S := fun w' => w'.cell? (ad113.add ((t110).toNat * 2)) = some (.int .i64 ((rd_T30 t105 t110).f0)) ∧ w'.cell? ⟨(ad113.add ((t110).toNat * 2)).block, (ad113.add ((t110).toNat * 2)).off + 1, none⟩ = some (.slice A115_1 ((rd_T30 t105 t110).f1).length c115_1) ∧ w'.cell? (ad113.add ((t110).toNat * 2)) = some (.int .i64 ((rd_T30 t105 t110).f0)) ∧ w'.cell? ⟨(ad113.add ((t110).toNat * 2)).block, (ad113.add ((t110).toNat * 2)).off + 1, none⟩ = some (.slice A115_1 ((rd_T30 t105 t110).f1).length c115_1) ∧ w'.cell? (ad120.add (t117).toNat) = some (.int .i64 (rd ((rd_T30 t105 t110).f1) t117))) (ds := []) #[nn,nn,nn,nn,nn,nn,nn,nn,nn,nn,nn,nn,nn,nn,nn,nn] (by kernel_rfl) rfl rfl ⟨hx115_0, hx115_1, hx116_0, hx116_1, hx120_0⟩ (fun hHeld => ?_); refine with_tabW spec_DrawLockFree.tab7 spec_DrawLockFree.bits7 (fun HT_ HW_ => ?_)
              generalize w11.drew = w16 at HO107 HL113_1 HL114_1 HR113_1 HR114_1 HI104 HB HL115_1 HL116_1 HR115_1 HR116_1 hx115_0 hx115_1 hx116_0 hx116_1 hx120_0 hHeld ⊢
              refine pure_ (i := 0) (N := some 31) (v := ?_) (a' := ?_) #[yy,nn,nn,nn,nn,nn,nn,nn,nn,nn,nn,nn,nn,nn,nn,nn] rfl rfl (any_of HT_.out (by kernel_rfl)) (fun _ _ _ h => h) (Or.inl ⟨by rfl, ?_⟩) ?_ ?_
              rotate_left
              · intro w'
                go_simp
                with_reducible rfl
              rotate_left
              · simp only [Act.put, tA, tB, tC, i64_w, i32_w]
                rfl
              refine pure_ (i := 1) (N := some 32) (v := ?_) (a' := ?_) #[yy,yy,nn,nn,nn,nn,nn,nn,nn,nn,nn,nn,nn,nn,nn,nn] rfl rfl (any_of HT_.out (by kernel_rfl)) (fun _ _ _ h => h) (Or.inl ⟨by rfl, ?_⟩) ?_ ?_
              rotate_left
              · intro w'
                go_simp
                with_reducible rfl
              rotate_left
              · simp only [Act.put, tA, tB, tC, i64_w, i32_w]
                rfl
              refine pure_ (i := 2) (N := some 33) (v := ?_) (a' := ?_) #[yy,yy,yy,nn,nn,nn,nn,nn,nn,nn,nn,nn,nn,nn,nn,nn] rfl rfl (any_of HT_.out (by kernel_rfl)) (fun _ _ _ h => h) (Or.inl ⟨by rfl, ?_⟩) ?_ ?_
              rotate_left
              · intro w'
                go_simp
                with_reducible rfl
              rotate_left
              · simp only [Act.put, tA, tB, tC, i64_w, i32_w]
                rfl
              refine pure_ (i := 3) (N := some 34) (v := ?_) (a' := ?_) #[yy,yy,yy,yy,nn,nn,nn,nn,nn,nn,nn,nn,nn,nn,nn,nn] rfl rfl (any_of HT_.out (by kernel_rfl)) (fun _ _ _ h => h) (Or.inl ⟨by rfl, ?_⟩) ?_ ?_
              rotate_left
              · intro w'
                go_simp
                with_reducible rfl
              rotate_left
              · simp only [Act.put, tA, tB, tC, i64_w, i32_w]
                rfl
              refine pure_ (i := 5) (N := some 36) (v := ?_) (a' := ?_) #[yy,yy,yy,yy,nn,yy,nn,nn,nn,nn,nn,nn,nn,nn,nn,nn] rfl rfl (any_of HT_.out (by kernel_rfl)) (fun _ _ _ h => h) (Or.inl ⟨by rfl, ?_⟩) ?_ ?_
              rotate_left
              · intro w'
                go_simp
                with_reducible rfl
              rotate_left
              · simp only [Act.put, tA, tB, tC, i64_w, i32_w]
                rfl
              refine pure_ (i := 6) (N := some 37) (v := ?_) (a' := ?_) #[yy,yy,yy,yy,nn,yy,yy,nn,nn,nn,nn,nn,nn,nn,nn,nn] rfl rfl (any_of HT_.out (by kernel_rfl)) (fun _ _ _ h => h) (Or.inl ⟨by rfl, ?_⟩) ?_ ?_
              rotate_left
              · intro w'
                go_simp
                with_reducible rfl
              rotate_left
              · simp only [Act.put, tA, tB, tC, i64_w, i32_w]
                rfl
              refine pure_ (i := 7) (N := some 38) (v := ?_) (a' := ?_) #[yy,yy,yy,yy,nn,yy,yy,yy,nn,nn,nn,nn,nn,nn,nn,nn] rfl rfl (any_of HT_.out (by kernel_rfl)) (fun _ _ _ h => h) (Or.inl ⟨by rfl, ?_⟩) ?_ ?_
              rotate_left
              · intro w'
                go_simp
                with_reducible rfl
              rotate_left
              · simp only [Act.put, tA, tB, tC, i64_w, i32_w]
                rfl
              refine pure_ (i := 8) (N := some 39) (v := ?_) (a' := ?_) #[yy,yy,yy,yy,nn,yy,yy,yy,yy,nn,nn,nn,nn,nn,nn,nn] rfl rfl (any_of HT_.out (by kernel_rfl)) (fun _ _ _ h => h) (Or.inl ⟨by rfl, ?_⟩) ?_ ?_
              rotate_left
              · intro w'
                go_simp
                with_reducible rfl
              rotate_left
              · simp only [Act.put, tA, tB, tC, i64_w, i32_w]
                rfl
              refine pure_ (i := 9) (N := some 40) (v := ?_) (a' := ?_) #[yy,yy,yy,yy,nn,yy,yy,yy,yy,yy,nn,nn,nn,nn,nn,nn] rfl rfl (any_of HT_.out (by kernel_rfl)) (fun _ _ _ h => h) (Or.inl ⟨by rfl, ?_⟩) ?_ ?_
              rotate_left
              · intro w'
                go_simp
                with_reducible rfl
              rotate_left
              · simp only [Act.put, tA, tB, tC, i64_w, i32_w]
                rfl
              refine take_ (i := 4) (N := some 35) (v := ?_) (a' := ?_) #[yy,yy,yy,yy,yy,yy,yy,yy,yy,yy,nn,nn,nn,nn,nn,nn] rfl rfl (take_ofW HT_.out HW_.out (by kernel_rfl)) (fun _ _ _ h => h) (Or.inl ⟨by rfl, ?_⟩) hHeld ?_ ?_
              rotate_left
              · rintro w' ⟨s0, s1, s2, s3, s4⟩
                go_simp
                with_reducible rfl
              rotate_left
              · simp only [Act.put, tA, tB, tC, i64_w, i32_w]
                rfl
              refine take_ (i := 10) (N := some 41) (v := ?_) (a' := ?_) #[yy,yy,yy,yy,yy,yy,yy,yy,yy,yy,yy,nn,nn,nn,nn,nn] rfl rfl (take_ofW HT_.out HW_.out (by kernel_rfl)) (fun _ _ _ h => h) (Or.inl ⟨by rfl, ?_⟩) hHeld ?_ ?_
              rotate_left
              · rintro w' ⟨s0, s1, s2, s3, s4⟩
                go_simp
                with_reducible rfl
              rotate_left
              · simp only [Act.put, tA, tB, tC, i64_w, i32_w]
                rfl
              refine pure_ (i := 11) (N := some 42) (v := ?_) (a' := ?_) #[yy,yy,yy,yy,yy,yy,yy,yy,yy,yy,yy,yy,nn,nn,nn,nn] rfl rfl (any_of HT_.out (by kernel_rfl)) (fun _ _ _ h => h) (Or.inl ⟨by rfl, ?_⟩) ?_ ?_
              rotate_left
              · intro w'
                go_simp
                with_reducible rfl
              rotate_left
              · simp only [Act.put, tA, tB, tC, i64_w, i32_w]
                rfl
              refine one_ (i := 12) (N := some 43) #[yy,yy,yy,yy,yy,yy,yy,yy,yy,yy,yy,yy,yy,nn,nn,nn] rfl rfl (one_of HT_.out (by kernel_rfl)) (by decide) (fun K hK => ?_)
              refine goes_ Try.func50 (by kernel_rfl) rfl #[.pointer (some ⟨g104, 0, none⟩), .int .i64 (((rd_T30 t105 t110).f1).length : Int)] (by rfl) rfl rfl (by (try simp only [List.map_toArray, List.map_cons, List.map_nil]); first | done | rfl | (simp only [List.length_drop, List.length_take]; rfl)) ?_
              with_reducible refine (spec_l1Below.calls g104 t101 t111 t112 (((rd_T30 t105 t110).f1).length : Int) t117 t118 t119 w _ ?side1 ?side2 A13.out).mono ?_
              (case side1 => repeat (first | (with_reducible first | exact HI104.out | apply IsS82.alloc | apply IsS82.drewN | apply IsS82.drew | apply IsS82.set_1 | apply IsS82.set_2) | exact HI104.out))
              (case side2 => repeat (first | (with_reducible first | exact HB.out | apply beA | apply beD | apply bed | refine beS ?_ (IsS82.ge HI104.out)) | exact HB.out))
              rintro e w17 ⟨rfl, hi, hb, hk⟩
              have HS0_ := keep_cell hk (hHeld.1) (by first | (rw [add_block]; exact Kd.own_blk (IsS82.own_neS HI104.out HO107.out (by decide))) | (show (Addr.add _ _).block ≠ _; rw [add_block]; exact Kd.own_blk (IsS82.own_neS HI104.out HO107.out (by decide))) | exact Kd.own_blk (IsS82.own_neS HI104.out HO107.out (by decide)))
              have HS1_ := keep_cell hk (hHeld.2.1) (by first | (rw [add_block]; exact Kd.own_blk (IsS82.own_neS HI104.out HO107.out (by decide))) | (show (Addr.add _ _).block ≠ _; rw [add_block]; exact Kd.own_blk (IsS82.own_neS HI104.out HO107.out (by decide))) | exact Kd.own_blk (IsS82.own_neS HI104.out HO107.out (by decide)))
              have HS2_ := keep_cell hk (hHeld.2.2.1) (by first | (rw [add_block]; exact Kd.own_blk (IsS82.own_neS HI104.out HO107.out (by decide))) | (show (Addr.add _ _).block ≠ _; rw [add_block]; exact Kd.own_blk (IsS82.own_neS HI104.out HO107.out (by decide))) | exact Kd.own_blk (IsS82.own_neS HI104.out HO107.out (by decide)))
              have HS3_ := keep_cell hk (hHeld.2.2.2.1) (by first | (rw [add_block]; exact Kd.own_blk (IsS82.own_neS HI104.out HO107.out (by decide))) | (show (Addr.add _ _).block ≠ _; rw [add_block]; exact Kd.own_blk (IsS82.own_neS HI104.out HO107.out (by decide))) | exact Kd.own_blk (IsS82.own_neS HI104.out HO107.out (by decide)))
              have HL120_ := HL115_1.out
              rw [e120] at HL120_
              have HS4_ := keep_cell hk (hHeld.2.2.2.2) (by first | (rw [add_block]; exact Kd.own_blk (IsS82.own_ne HI104.out HL120_ (by decide))) | (show (Addr.add _ _).block ≠ _; rw [add_block]; exact Kd.own_blk (IsS82.own_ne HI104.out HL120_ (by decide))) | exact Kd.own_blk (IsS82.own_ne HI104.out HL120_ (by decide)))
              refine ⟨_, rfl, ?_⟩
              have n0_ := aM (Kd.S_mono (Kd.S_keep (IsS82.apartS (show IsS82 w _ g104 t101 t111 t112 from by repeat (first | (with_reducible first | exact HI104.out | apply IsS82.alloc | apply IsS82.drewN | apply IsS82.drew | apply IsS82.set_1 | apply IsS82.set_2) | exact HI104.out)) (by (with_reducible repeat (first | apply Kd.S_alloc | apply Kd.S_drewN | apply Kd.S_drew)); exact HO107.out) (by decide)) hk (fun _ h => h.2)) (fun _ h => h.1))
              have n1_ := aM (Kd.R_mono (Kd.R_keep (IsS82.apart (show IsS82 w _ g104 t101 t111 t112 from by repeat (first | (with_reducible first | exact HI104.out | apply IsS82.alloc | apply IsS82.drewN | apply IsS82.drew | apply IsS82.set_1 | apply IsS82.set_2) | exact HI104.out)) (by (with_reducible repeat (first | apply Kd.R_alloc | apply Kd.R_drewN | apply Kd.R_drew)); exact HL113_1.out) (by decide)) hk (fun _ h => h.2)) (fun _ h => h.1))
              have n2_ := aM (Kd.R_mono (Kd.R_keep (IsS82.apart (show IsS82 w _ g104 t101 t111 t112 from by repeat (first | (with_reducible first | exact HI104.out | apply IsS82.alloc | apply IsS82.drewN | apply IsS82.drew | apply IsS82.set_1 | apply IsS82.set_2) | exact HI104.out)) (by (with_reducible repeat (first | apply Kd.R_alloc | apply Kd.R_drewN | apply Kd.R_drew)); exact HL114_1.out) (by decide)) hk (fun _ h => h.2)) (fun _ h => h.1))
              have n3_ := aM (Kd.R_mono (Kd.R_keep (IsS82.apart (show IsS82 w _ g104 t101 t111 t112 from by repeat (first | (with_reducible first | exact HI104.out | apply IsS82.alloc | apply IsS82.drewN | apply IsS82.drew | apply IsS82.set_1 | apply IsS82.set_2) | exact HI104.out)) (by (with_reducible repeat (first | apply Kd.R_alloc | apply Kd.R_drewN | apply Kd.R_drew)); exact HL115_1.out) (by decide)) hk (fun _ h => h.2)) (fun _ h => h.1))
              have n4_ := aM (Kd.R_mono (Kd.R_keep (IsS82.apart (show IsS82 w _ g104 t101 t111 t112 from by repeat (first | (with_reducible first | exact HI104.out | apply IsS82.alloc | apply IsS82.drewN | apply IsS82.drew | apply IsS82.set_1 | apply IsS82.set_2) | exact HI104.out)) (by (with_reducible repeat (first | apply Kd.R_alloc | apply Kd.R_drewN | apply Kd.R_drew)); exact HL116_1.out) (by decide)) hk (fun _ h => h.2)) (fun _ h => h.1))
              have n5_ := aM (hb)
              have n6_ := aM (hi)
              clear HO107
              clear HL113_1
              clear HL114_1
              clear HL115_1
              clear HL116_1
              clear HB
              clear HI104
              have HO107 := n0_
              have HL113_1 := n1_
              have HL114_1 := n2_
              have HL115_1 := n3_
              have HL116_1 := n4_
              have HB := n5_
              have HI104 := n6_
              clear n0_ n1_ n2_ n3_ n4_ n5_ n6_
              (try clear hb)
              (try clear hb2)
              (try clear hk)
              (try clear hi)
              cases e120
              replace p120 := eq_true p120
              replace q120 := eq_true q120
              refine hK.out _ _ ⟨HS0_, HS1_, HS2_, HS3_, HS4_⟩ (fun hHeld => ?_)
              clear hK K
              refine norm_ (a' := ?_) ?_ ?_
              rotate_left
              · show Act.put _ (some 43) _ = _
                simp only [Act.put, tA, tB, tC, i64_w, i32_w]
                rfl
              refine pure_ (i := 13) (N := some 44) (v := ?_) (a' := ?_) #[yy,yy,yy,yy,yy,yy,yy,yy,yy,yy,yy,yy,yy,yy,nn,nn] rfl rfl (any_of HT_.out (by kernel_rfl)) (fun _ _ _ h => h) (Or.inl ⟨by rfl, ?_⟩) ?_ ?_
              rotate_left
              · intro w'
                go_simp
                with_reducible rfl
              rotate_left
              · simp only [Act.put, tA, tB, tC, i64_w, i32_w]
                rfl
              refine take_ (i := 14) (N := some 45) (v := ?_) (a' := ?_) #[yy,yy,yy,yy,yy,yy,yy,yy,yy,yy,yy,yy,yy,yy,yy,nn] rfl rfl (take_ofW HT_.out HW_.out (by kernel_rfl)) (fun _ _ _ h => h) (Or.inl ⟨by rfl, ?_⟩) hHeld ?_ ?_
              rotate_left
              · rintro w' ⟨s0, s1, s2, s3, s4⟩
                go_simp
                with_reducible rfl
              rotate_left
              · simp only [Act.put, tA, tB, tC, i64_w, i32_w]
                rfl
              refine pure_ (i := 15) (N := some 10) (v := ?_) (a' := ?_) #[yy,yy,yy,yy,yy,yy,yy,yy,yy,yy,yy,yy,yy,yy,yy,yy] rfl rfl (any_of HT_.out (by kernel_rfl)) (fun _ _ _ h => h) (Or.inl ⟨by rfl, ?_⟩) ?_ ?_
              rotate_left
              · intro w'
                go_simp
                with_reducible rfl
              rotate_left
              · simp only [Act.put, tA, tB, tC, i64_w, i32_w]
                rfl
              refine done_ (done_of HT_.out (by kernel_rfl)) ?_
              try go_wp2
              go_meet
              case rel => exact ⟨_, (rd ((rd_T30 t105 t110).f1) t117), (t118), (t119), (by first | rfl | (simp; done) | (simp [*]; done)), H', ⟨by first | omega | exact Nat.le_refl _⟩, ⟨by (with_reducible repeat (first | apply Kd.S_alloc | apply Kd.S_drewN | apply Kd.S_drew)); exact HO107.out⟩, ⟨by repeat (first | (with_reducible first | exact HI104.out | apply IsS82.alloc | apply IsS82.drewN | apply IsS82.drew | apply IsS82.set_1 | apply IsS82.set_2) | exact HI104.out)⟩, ⟨by repeat (first | (with_reducible first | exact HB.out | apply beA | apply beD | apply bed | refine beS ?_ (IsS82.ge HI104.out)) | exact HB.out)⟩⟩
            rw [if_neg c15] at H
            exact absurd H (by simp)
          rw [if_neg c14] at H
          exact absurd H (by simp)
        rw [if_neg c12] at H
        have c12b0 : decide (0 < (((rd_T30 t105 t110).f1).length : Int)) = false := decide_eq_false c12
        have c12b1 : decide (0 < ((rd_T30 t105 t110).f1).length) = false := decide_eq_false (by omega)
        clear c12
        (first | rw [c12b0] | (simp only [i64_w, i32_w]; rw [c12b0]) | rw [c12b1] | skip)
        have H' := Aside0.mk H
        clear H
        go_wp2
        go_meet
        case rel => exact ⟨_, (0), (t111), (t112), (by first | rfl | (simp; done) | (simp [*]; done)), H', ⟨by first | omega | exact Nat.le_refl _⟩, ⟨by (with_reducible repeat (first | apply Kd.S_alloc | apply Kd.S_drewN | apply Kd.S_drew)); exact HO107.out⟩, ⟨by repeat (first | (with_reducible first | exact HI104.out | apply IsS82.alloc | apply IsS82.drewN | apply IsS82.drew | apply IsS82.set_1 | apply IsS82.set_2) | exact HI104.out)⟩, ⟨by repeat (first | (with_reducible first | exact HB.out | apply beA | apply beD | apply bed | refine beS ?_ (IsS82.ge HI104.out)) | exact HB.out)⟩⟩
      case rest =>
        clear HC7
        try clear c1
        try clear p1
        try clear q1
        try clear hx1
        try clear p2
        try clear c3
        try clear c4
        try clear c5
        try clear c5b0
        try clear c6
        try clear c6b0
        try clear c11
        try clear p11
        try clear q11
        try clear hx11
        try clear c12
        try clear c12b0
        try clear c12b1
        try clear p12
        try clear q12
        try clear hx12
        try clear c14
        try clear c14b0
        try clear c15
        try clear c15b0
        try clear hx113_0
        try clear hx113_1
        try clear hx114_0
        try clear hx114_1
        try clear hx115_0
        try clear hx115_1
        try clear hx116_0
        try clear hx116_1
        try clear hx120_0
        try clear p113
        try clear p114
        try clear p115
        try clear p116
        try clear p120
        try clear q113
        try clear q114
        try clear q115
        try clear q116
        try clear q120
        obtain ⟨kq, x10_6, x105001_6, x105002_6, rfl, HA, HJ6, HO_7, HI104, HB⟩ := hcut
        cases kq with
        | zero => exact absurd HA.out (by simp [spec_DrawLockFree.j0])
        | succ kj6 =>
          have H := HA.out
          clear HA
          simp only [spec_DrawLockFree.j0] at H
          replace H := Option.bind_eq_some_iff.mp H
          obtain ⟨⟨t121, t122, t123⟩, A180, H⟩ := H
          replace H : (if t121 = 0 then ((spec_l1Below.f t101 t122 t123 8).bind fun bt124 => (some (t105, t110, bt124.1, x10_6))) else (if t121 = 1 then ((spec_l1Below.f t101 t122 t123 8).bind fun bt127 => (some (t105, t110, ((rd_T30 t105 t110).f0), bt127.1))) else (if t121 = 2 then ((spec_l1Below.f t101 t122 t123 7).bind fun bt130 => (some (t105, wrap64 (bt130.1 - 1), ((rd_T30 t105 t110).f0), x10_6))) else (some (t105, t110, ((rd_T30 t105 t110).f0), x10_6))))) = some (r1, r2, r3, r4) := H
          have A18 := Aside0.mk A180
          clear A180
          by_cases c19 : t121 = 0
          · rw [if_pos c19] at H
            have c19b0 : (t121 == 0) = true := beq_iff_eq.mpr c19
            have c19b1 : (t121 != 0) = false := bne_eq_false_iff_eq.mpr c19
            clear c19
            replace H := Option.bind_eq_some_iff.mp H
            obtain ⟨⟨t124, t125, t126⟩, A200, H⟩ := H
            replace H : (some (t105, t110, t124, x10_6)) = some (r1, r2, r3, r4) := H
            have A20 := Aside0.mk A200
            clear A200
            simp only [Option.some.injEq, Prod.mk.injEq] at H
            obtain ⟨rfl, rfl, rfl, rfl⟩ := H
            go_wp2_with (first | ((with_reducible refine gate_callee (f := 50) rfl ?_); refine goesL_ (some 47) rfl rfl Try.func50 (by kernel_rfl) rfl #[.pointer (some ⟨g104, 0, none⟩), .int .i64 9] rfl (by (try simp only [List.map_toArray, List.map_cons, List.map_nil]); first | done | rfl | (simp only [List.length_drop, List.length_take]; rfl)) ?_; (with_reducible refine (spec_l1Below.calls g104 t101 x105001_6 x105002_6 9 t121 t122 t123 w _ ?side1 ?side2 A18.out).mono ?_); (case side1 => repeat (first | (with_reducible first | exact HI104.out | apply IsS82.alloc | apply IsS82.drewN | apply IsS82.drew | apply IsS82.set_1 | apply IsS82.set_2) | exact HI104.out)); (case side2 => repeat (first | (with_reducible first | exact HB.out | apply beA | apply beD | apply bed | refine beS ?_ (IsS82.ge HI104.out)) | exact HB.out)); rintro e w21 ⟨rfl, hi, hb, hk⟩; refine ⟨_, rfl, ?_⟩; have n0_ := aM (Kd.S_mono (Kd.S_keep (IsS82.apartS (show IsS82 w _ g104 t101 x105001_6 x105002_6 from by repeat (first | (with_reducible first | exact HI104.out | apply IsS82.alloc | apply IsS82.drewN | apply IsS82.drew | apply IsS82.set_1 | apply IsS82.set_2) | exact HI104.out)) (by (with_reducible repeat (first | apply Kd.S_alloc | apply Kd.S_drewN | apply Kd.S_drew)); exact HO_7.out) (by decide)) hk (fun _ h => h.2)) (fun _ h => h.1)); have n1_ := aM (hb); have n2_ := aM (hi); clear HO_7; clear HB; clear HI104; have HO_7 := n0_; have HB := n1_; have HI104 := n2_; clear n0_ n1_ n2_; (try clear hb); (try clear hb2); (try clear hk); (try clear hi)) | ((with_reducible refine gate_callee (f := 50) rfl ?_); refine goesL_ (some 51) rfl rfl Try.func50 (by kernel_rfl) rfl #[.pointer (some ⟨g104, 0, none⟩), .int .i64 8] rfl (by (try simp only [List.map_toArray, List.map_cons, List.map_nil]); first | done | rfl | (simp only [List.length_drop, List.length_take]; rfl)) ?_; (with_reducible refine (spec_l1Below.calls g104 t101 t122 t123 8 t124 t125 t126 w _ ?side1 ?side2 A20.out).mono ?_); (case side1 => repeat (first | (with_reducible first | exact HI104.out | apply IsS82.alloc | apply IsS82.drewN | apply IsS82.drew | apply IsS82.set_1 | apply IsS82.set_2) | exact HI104.out)); (case side2 => repeat (first | (with_reducible first | exact HB.out | apply beA | apply beD | apply bed | refine beS ?_ (IsS82.ge HI104.out)) | exact HB.out)); rintro e w22 ⟨rfl, hi, hb, hk⟩; refine ⟨_, rfl, ?_⟩; have n0_ := aM (Kd.S_mono (Kd.S_keep (IsS82.apartS (show IsS82 w _ g104 t101 t122 t123 from by repeat (first | (with_reducible first | exact HI104.out | apply IsS82.alloc | apply IsS82.drewN | apply IsS82.drew | apply IsS82.set_1 | apply IsS82.set_2) | exact HI104.out)) (by (with_reducible repeat (first | apply Kd.S_alloc | apply Kd.S_drewN | apply Kd.S_drew)); exact HO_7.out) (by decide)) hk (fun _ h => h.2)) (fun _ h => h.1)); have n1_ := aM (hb); have n2_ := aM (hi); clear HO_7; clear HB; clear HI104; have HO_7 := n0_; have HB := n1_; have HI104 := n2_; clear n0_ n1_ n2_; (try clear hb); (try clear hb2); (try clear hk); (try clear hi)))
            refine bodyPost_ret (results_list (rs := [.tmp 2, .tmp 3, .tmp 4, .tmp 5]) rfl (by simp) (.tmp (.tmp (.tmp (.tmp .nil))))) rfl ?_
            exact ⟨_, by first | rfl | (simp <;> rfl) | (simp [*] <;> rfl), by (with_reducible repeat (first | apply Kd.S_alloc | apply Kd.S_drewN | apply Kd.S_drew)); exact HO_7.out, by repeat (first | (with_reducible first | exact HB.out | apply beA | apply beD | apply bed | refine beS ?_ (IsS82.ge HI104.out)) | exact HB.out)⟩
          rw [if_neg c19] at H
          have c19b0 : (t121 == 0) = false := beq_eq_false_iff_ne.mpr c19
          have c19b1 : (t121 != 0) = true := bne_iff_ne.mpr c19
          by_cases c23 : t121 = 1
          · rw [if_pos c23] at H
            have c23b0 : (t121 == 1) = true := beq_iff_eq.mpr c23
            have c23b1 : (t121 != 1) = false := bne_eq_false_iff_eq.mpr c23
            clear c23
            replace H := Option.bind_eq_some_iff.mp H
            obtain ⟨⟨t127, t128, t129⟩, A240, H⟩ := H
            replace H : (some (t105, t110, ((rd_T30 t105 t110).f0), t127)) = some (r1, r2, r3, r4) := H
            have A24 := Aside0.mk A240
            clear A240
            simp only [Option.some.injEq, Prod.mk.injEq] at H
            obtain ⟨rfl, rfl, rfl, rfl⟩ := H
            go_wp2_with (first | ((with_reducible refine gate_callee (f := 50) rfl ?_); refine goesL_ (some 47) rfl rfl Try.func50 (by kernel_rfl) rfl #[.pointer (some ⟨g104, 0, none⟩), .int .i64 9] rfl (by (try simp only [List.map_toArray, List.map_cons, List.map_nil]); first | done | rfl | (simp only [List.length_drop, List.length_take]; rfl)) ?_; (with_reducible refine (spec_l1Below.calls g104 t101 x105001_6 x105002_6 9 t121 t122 t123 w _ ?side1 ?side2 A18.out).mono ?_); (case side1 => repeat (first | (with_reducible first | exact HI104.out | apply IsS82.alloc | apply IsS82.drewN | apply IsS82.drew | apply IsS82.set_1 | apply IsS82.set_2) | exact HI104.out)); (case side2 => repeat (first | (with_reducible first | exact HB.out | apply beA | apply beD | apply bed | refine beS ?_ (IsS82.ge HI104.out)) | exact HB.out)); rintro e w25 ⟨rfl, hi, hb, hk⟩; refine ⟨_, rfl, ?_⟩; have n0_ := aM (Kd.S_mono (Kd.S_keep (IsS82.apartS (show IsS82 w _ g104 t101 x105001_6 x105002_6 from by repeat (first | (with_reducible first | exact HI104.out | apply IsS82.alloc | apply IsS82.drewN | apply IsS82.drew | apply IsS82.set_1 | apply IsS82.set_2) | exact HI104.out)) (by (with_reducible repeat (first | apply Kd.S_alloc | apply Kd.S_drewN | apply Kd.S_drew)); exact HO_7.out) (by decide)) hk (fun _ h => h.2)) (fun _ h => h.1)); have n1_ := aM (hb); have n2_ := aM (hi); clear HO_7; clear HB; clear HI104; have HO_7 := n0_; have HB := n1_; have HI104 := n2_; clear n0_ n1_ n2_; (try clear hb); (try clear hb2); (try clear hk); (try clear hi)) | ((with_reducible refine gate_callee (f := 50) rfl ?_); refine goesL_ (some 55) rfl rfl Try.func50 (by kernel_rfl) rfl #[.pointer (some ⟨g104, 0, none⟩), .int .i64 8] rfl (by (try simp only [List.map_toArray, List.map_cons, List.map_nil]); first | done | rfl | (simp only [List.length_drop, List.length_take]; rfl)) ?_; (with_reducible refine (spec_l1Below.calls g104 t101 t122 t123 8 t127 t128 t129 w _ ?side1 ?side2 A24.out).mono ?_); (case side1 => repeat (first | (with_reducible first | exact HI104.out | apply IsS82.alloc | apply IsS82.drewN | apply IsS82.drew | apply IsS82.set_1 | apply IsS82.set_2) | exact HI104.out)); (case side2 => repeat (first | (with_reducible first | exact HB.out | apply beA | apply beD | apply bed | refine beS ?_ (IsS82.ge HI104.out)) | exact HB.out)); rintro e w26 ⟨rfl, hi, hb, hk⟩; refine ⟨_, rfl, ?_⟩; have n0_ := aM (Kd.S_mono (Kd.S_keep (IsS82.apartS (show IsS82 w _ g104 t101 t122 t123 from by repeat (first | (with_reducible first | exact HI104.out | apply IsS82.alloc | apply IsS82.drewN | apply IsS82.drew | apply IsS82.set_1 | apply IsS82.set_2) | exact HI104.out)) (by (with_reducible repeat (first | apply Kd.S_alloc | apply Kd.S_drewN | apply Kd.S_drew)); exact HO_7.out) (by decide)) hk (fun _ h => h.2)) (fun _ h => h.1)); have n1_ := aM (hb); have n2_ := aM (hi); clear HO_7; clear HB; clear HI104; have HO_7 := n0_; have HB := n1_; have HI104 := n2_; clear n0_ n1_ n2_; (try clear hb); (try clear hb2); (try clear hk); (try clear hi)))
            refine bodyPost_ret (results_list (rs := [.tmp 2, .tmp 3, .tmp 4, .tmp 5]) rfl (by simp) (.tmp (.tmp (.tmp (.tmp .nil))))) rfl ?_
            exact ⟨_, by first | rfl | (simp <;> rfl) | (simp [*] <;> rfl), by (with_reducible repeat (first | apply Kd.S_alloc | apply Kd.S_drewN | apply Kd.S_drew)); exact HO_7.out, by repeat (first | (with_reducible first | exact HB.out | apply beA | apply beD | apply bed | refine beS ?_ (IsS82.ge HI104.out)) | exact HB.out)⟩
          rw [if_neg c23] at H
          have c23b0 : (t121 == 1) = false := beq_eq_false_iff_ne.mpr c23
          have c23b1 : (t121 != 1) = true := bne_iff_ne.mpr c23
          by_cases c27 : t121 = 2
          · rw [if_pos c27] at H
            have c27b0 : (t121 == 2) = true := beq_iff_eq.mpr c27
            have c27b1 : (t121 != 2) = false := bne_eq_false_iff_eq.mpr c27
            clear c27
            replace H := Option.bind_eq_some_iff.mp H
            obtain ⟨⟨t130, t131, t132⟩, A280, H⟩ := H
            replace H : (some (t105, wrap64 (t130 - 1), ((rd_T30 t105 t110).f0), x10_6)) = some (r1, r2, r3, r4) := H
            have A28 := Aside0.mk A280
            clear A280
            simp only [Option.some.injEq, Prod.mk.injEq] at H
            obtain ⟨rfl, rfl, rfl, rfl⟩ := H
            go_wp2_with (first | ((with_reducible refine gate_callee (f := 50) rfl ?_); refine goesL_ (some 47) rfl rfl Try.func50 (by kernel_rfl) rfl #[.pointer (some ⟨g104, 0, none⟩), .int .i64 9] rfl (by (try simp only [List.map_toArray, List.map_cons, List.map_nil]); first | done | rfl | (simp only [List.length_drop, List.length_take]; rfl)) ?_; (with_reducible refine (spec_l1Below.calls g104 t101 x105001_6 x105002_6 9 t121 t122 t123 w _ ?side1 ?side2 A18.out).mono ?_); (case side1 => repeat (first | (with_reducible first | exact HI104.out | apply IsS82.alloc | apply IsS82.drewN | apply IsS82.drew | apply IsS82.set_1 | apply IsS82.set_2) | exact HI104.out)); (case side2 => repeat (first | (with_reducible first | exact HB.out | apply beA | apply beD | apply bed | refine beS ?_ (IsS82.ge HI104.out)) | exact HB.out)); rintro e w29 ⟨rfl, hi, hb, hk⟩; refine ⟨_, rfl, ?_⟩; have n0_ := aM (Kd.S_mono (Kd.S_keep (IsS82.apartS (show IsS82 w _ g104 t101 x105001_6 x105002_6 from by repeat (first | (with_reducible first | exact HI104.out | apply IsS82.alloc | apply IsS82.drewN | apply IsS82.drew | apply IsS82.set_1 | apply IsS82.set_2) | exact HI104.out)) (by (with_reducible repeat (first | apply Kd.S_alloc | apply Kd.S_drewN | apply Kd.S_drew)); exact HO_7.out) (by decide)) hk (fun _ h => h.2)) (fun _ h => h.1)); have n1_ := aM (hb); have n2_ := aM (hi); clear HO_7; clear HB; clear HI104; have HO_7 := n0_; have HB := n1_; have HI104 := n2_; clear n0_ n1_ n2_; (try clear hb); (try clear hb2); (try clear hk); (try clear hi)) | ((with_reducible refine gate_callee (f := 50) rfl ?_); refine goesL_ (some 59) rfl rfl Try.func50 (by kernel_rfl) rfl #[.pointer (some ⟨g104, 0, none⟩), .int .i64 7] rfl (by (try simp only [List.map_toArray, List.map_cons, List.map_nil]); first | done | rfl | (simp only [List.length_drop, List.length_take]; rfl)) ?_; (with_reducible refine (spec_l1Below.calls g104 t101 t122 t123 7 t130 t131 t132 w _ ?side1 ?side2 A28.out).mono ?_); (case side1 => repeat (first | (with_reducible first | exact HI104.out | apply IsS82.alloc | apply IsS82.drewN | apply IsS82.drew | apply IsS82.set_1 | apply IsS82.set_2) | exact HI104.out)); (case side2 => repeat (first | (with_reducible first | exact HB.out | apply beA | apply beD | apply bed | refine beS ?_ (IsS82.ge HI104.out)) | exact HB.out)); rintro e w30 ⟨rfl, hi, hb, hk⟩; refine ⟨_, rfl, ?_⟩; have n0_ := aM (Kd.S_mono (Kd.S_keep (IsS82.apartS (show IsS82 w _ g104 t101 t122 t123 from by repeat (first | (with_reducible first | exact HI104.out | apply IsS82.alloc | apply IsS82.drewN | apply IsS82.drew | apply IsS82.set_1 | apply IsS82.set_2) | exact HI104.out)) (by (with_reducible repeat (first | apply Kd.S_alloc | apply Kd.S_drewN | apply Kd.S_drew)); exact HO_7.out) (by decide)) hk (fun _ h => h.2)) (fun _ h => h.1)); have n1_ := aM (hb); have n2_ := aM (hi); clear HO_7; clear HB; clear HI104; have HO_7 := n0_; have HB := n1_; have HI104 := n2_; clear n0_ n1_ n2_; (try clear hb); (try clear hb2); (try clear hk); (try clear hi)))
            refine bodyPost_ret (results_list (rs := [.tmp 2, .tmp 3, .tmp 4, .tmp 5]) rfl (by simp) (.tmp (.tmp (.tmp (.tmp .nil))))) rfl ?_
            exact ⟨_, by first | rfl | (simp <;> rfl) | (simp [*] <;> rfl), by (with_reducible repeat (first | apply Kd.S_alloc | apply Kd.S_drewN | apply Kd.S_drew)); exact HO_7.out, by repeat (first | (with_reducible first | exact HB.out | apply beA | apply beD | apply bed | refine beS ?_ (IsS82.ge HI104.out)) | exact HB.out)⟩
          rw [if_neg c27] at H
          have c27b0 : (t121 == 2) = false := beq_eq_false_iff_ne.mpr c27
          have c27b1 : (t121 != 2) = true := bne_iff_ne.mpr c27
          simp only [Option.some.injEq, Prod.mk.injEq] at H
          obtain ⟨rfl, rfl, rfl, rfl⟩ := H
          go_wp2_with (first | ((with_reducible refine gate_callee (f := 50) rfl ?_); refine goesL_ (some 47) rfl rfl Try.func50 (by kernel_rfl) rfl #[.pointer (some ⟨g104, 0, none⟩), .int .i64 9] rfl (by (try simp only [List.map_toArray, List.map_cons, List.map_nil]); first | done | rfl | (simp only [List.length_drop, List.length_take]; rfl)) ?_; (with_reducible refine (spec_l1Below.calls g104 t101 x105001_6 x105002_6 9 t121 t122 t123 w _ ?side1 ?side2 A18.out).mono ?_); (case side1 => repeat (first | (with_reducible first | exact HI104.out | apply IsS82.alloc | apply IsS82.drewN | apply IsS82.drew | apply IsS82.set_1 | apply IsS82.set_2) | exact HI104.out)); (case side2 => repeat (first | (with_reducible first | exact HB.out | apply beA | apply beD | apply bed | refine beS ?_ (IsS82.ge HI104.out)) | exact HB.out)); rintro e w31 ⟨rfl, hi, hb, hk⟩; refine ⟨_, rfl, ?_⟩; have n0_ := aM (Kd.S_mono (Kd.S_keep (IsS82.apartS (show IsS82 w _ g104 t101 x105001_6 x105002_6 from by repeat (first | (with_reducible first | exact HI104.out | apply IsS82.alloc | apply IsS82.drewN | apply IsS82.drew | apply IsS82.set_1 | apply IsS82.set_2) | exact HI104.out)) (by (with_reducible repeat (first | apply Kd.S_alloc | apply Kd.S_drewN | apply Kd.S_drew)); exact HO_7.out) (by decide)) hk (fun _ h => h.2)) (fun _ h => h.1)); have n1_ := aM (hb); have n2_ := aM (hi); clear HO_7; clear HB; clear HI104; have HO_7 := n0_; have HB := n1_; have HI104 := n2_; clear n0_ n1_ n2_; (try clear hb); (try clear hb2); (try clear hk); (try clear hi)))
          refine bodyPost_ret (results_list (rs := [.tmp 2, .tmp 3, .tmp 4, .tmp 5]) rfl (by simp) (.tmp (.tmp (.tmp (.tmp .nil))))) rfl ?_
          exact ⟨_, by first | rfl | (simp <;> rfl) | (simp [*] <;> rfl), by (with_reducible repeat (first | apply Kd.S_alloc | apply Kd.S_drewN | apply Kd.S_drew)); exact HO_7.out, by repeat (first | (with_reducible first | exact HB.out | apply beA | apply beD | apply bed | refine beS ?_ (IsS82.ge HI104.out)) | exact HB.out)⟩
    rw [if_neg c6] at H
    exact absurd H (by simp)
  rw [if_neg c5] at H
  exact absurd H (by simp)

end Go.Proofs.Ytplecpkghbjbjaa.Print
